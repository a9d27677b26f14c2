import PyProof.Rows.All
import Wide.All
import OpenK.AllK
import Wide.FinOn
import KE.KExcSuper
import HandS.Base
import HandS.Call
import HandS.Ends
import HandS.Exc
import HandS.ExcInit
import HandS.Nested
import HandS.MakeKw
import HandS.Defaults
import KE.KExcIs
import HandS.ExcValue
import HandS.ForMost
import HandS.Iter
import HandS.NoneIn
import HandS.Codes
import HandS.Walk
import PyProof.ReprRoads
import HandS.TupMul
import HandS.EndTab
import HandS.Deep
import HandS.IsInst
import HandS.TupAny
import HandS.Text
import HandS.Lambda
import HandS.ExcOwn
import HandS.WordsExc
import HandS.Wide
import HandS.Zip
import HandS.TryOnly
import HandS.Star
import HandS.TryMany
import HandS.ExcField
import KE.KDflt
import PyProof.Rows.PlainNe
import HandS.Style
import PyProof.SliceStr2
import KE.KRevSl
import PyProof.ListStr
import PyProof.ZipIter
import HandS.SetTxt0
import PyProof.SumAny
import PyProof.SumWalk
import PyProof.ListOps
import HandS.SetFor
import PyProof.Rows.SortShellAny
import HandS.Strs
import PyProof.StrOps2
import HandS.TupLe
import HandS.DictComp
import PyProof.StrLawsRepr
import PySem.Challenge.RW_followface_k07_texts_of_manners
import KE.KNestM
set_option Elab.async false
set_option linter.all false
set_option maxRecDepth 100000
set_option maxHeartbeats 4000000
/-! An own exception's __init__ that says super().__init__(..) and stores its parameters. -/
namespace Fx
open PySem PySem.W PySem.Calls PyProof.Rows PySem.HandSPX
/-! ### the bound ValueError.__init__ called -/
section
variable {prog : Program} {w : World} {A : Around} {E : Value → Shared → Prop} {h : Heap} {g : Array GenState} {d : Drawn} {t : Nat} {os : OsState}
variable {nm q : Str} {C N : Addr} {bs bm : List Value} {hdct : Bool} {sn : List Str} {sub : List Value} {ab : Bool} {col : Option Bool} {dd : Option Addr} {k0 k1 k2 k3 k5 : Option Value}
theorem call_ve {u e t0 : Addr} {rest : List Value} {Q : Value → Shared → Prop}
    (hC : h.get? C = some (excClassObj nm q C N bs bm hdct sn sub ab col dd k0 k1 k2 k3 k5 "ValueError.__new__")) (he : h.get? e = some (excO C t0)) (hu : h.get? u = some (kxs_mw "ValueError.__init__" e)) (hrest : rest.length ≤ sizeLine)
    (hq : ∀ h' t1, (∀ b o, b ≠ e → h.get? b = some o → h'.get? b = some o) → h'.get? e = some (excO C t1) → Q .none ⟨h', g, d, t, os⟩) :
    wpAny (model prog w) A (call (.ref u) rest) Q E ⟨h, g, d, t, os⟩ := by
  refine wpAny_call (codeAny_of_tree ?_)
  show wpAny _ A.in1 (callAny (.ref u) ⟨rest, []⟩) _ _ _
  simp only [callAny]
  refine wpAny_bind (wpAny_load hu ?_)
  simp only [kxs_mw, show (Value.type "method-wrapper" == Value.type "method" || Value.type "method-wrapper" == Value.type "builtin_function_or_method" || Value.type "method-wrapper" == Value.type "method-wrapper") = true by decide, if_true]
  refine KFB.if_so (by decide) ?_
  refine wpAny_bind (check_bound_init F.excBase_ValueError.toExcCallFacts hC he rfl ?_)
  refine wpAny_bind (wpAny_pure (wpAny_pure ?_))
  refine ⟨Code.quiet_builtin _ (by decide +kernel), codeAny_builtin F.excBase_ValueError.initEntry ?_⟩
  rw [Around.under_plainId F.excBase_ValueError.init.plain _]
  wp_walk
  refine hq _ h.objs.size (fun b o hb ho => ?_) ?_
  · rw [Heap.get?_update_other _ _ (Ne.symm hb)]
    exact Heap.get?_push_of_some _ ho
  · rw [Heap.get?_update_self _ (Heap.get?_push_of_some _ he) rfl]
    rfl
end
end Fx
namespace Fx
open PySem PySem.Spec PyProof.Rows L2 NdefX
/-- what the written part says of an __init__ over super() -/
structure SupTxt (P : Program) (K : PySem.W.Frag) (mg : Str → Option Value) (fI : Addr) (fd : FuncData) (F : NF) (cc D : Addr) : Prop where
  cl : F.cl = [(("__class__" : Str), cc)]
  fn : ∃ (oc : Value) (od : Option Addr) (kV doc pm : Value) (an : Option Addr) (ct : Value) (osl : Array (Option Value)), fd = PySem.W.fnX F.name F.qual F.params F.body F.scope F.cl .none kV doc pm an (.ref F.c) ct ∧ K.lookup fI = some ⟨oc, od, .func fd, osl⟩
  cd : PySem.W.codeIn K (.ref F.c) F.qual = true
  code : ∃ (ccl : Value) (cdd : Option Addr) (vs : Array Value) (ccs : Array (Option Value)) (file : Str) (tf : Tok), K.lookup F.c = some ⟨ccl, cdd, .fields vs, ccs⟩ ∧ vs[2]? = some (.str file tf) ∧ ((P.main.file : Str) == file) = true
  cell : ∃ (cl : Value) (cld : Option Addr) (csl : Array (Option Value)), K.lookup cc = some ⟨cl, cld, .cell (some (.ref D)), csl⟩
  cls : ∃ cdD, PySem.W.clsIn K D = some cdD
  opq : PySem.W.nsIn K cStatics "thirdparty.any" = some none
  top : (P.main.scope.names.lookup ("super" : Str)).isSome = false
  sup : mg "super" = none
/-- .. of an exception class whose __init__ (that of D) it is -/
structure XC (K : PySem.W.Frag) (C D fI : Addr) : Prop extends OexC K C where
  iC : PySem.W.findIn K (.ref C) "__init__" = some (some (.ref fI))
  sub : PySem.W.mroIn K C (.ref D) = some true
  sup : PySem.W.ks_superIn K C D "__init__" = some (some (.builtin "ValueError.__init__"))
  ve : PySem.W.subIn K (.ref C) (.type "ValueError") = some true
def tSup (K : PySem.W.Frag) (D fI : Addr) (i : Nat) (ta : TA) (t : TS) : TS := fun De σ H => ∃ a C, σ[i]? = some (some (.ref a)) ∧ XC K C D fI ∧ H a = some (exo a C none) ∧
  ta σ H fun ws H1 => ws.length ≤ 1000 ∧ H1 a = some (exo a C none) ∧ t De σ H1
theorem fn_super {CX : CXT} {P : Program} {w : World} {K : PySem.W.Frag} {mg : Str → Option Value} {base : Heap} {k : Nat} {fI cc D : Addr} {fd : FuncData} {F : NF} {N ps : List Str} {sp : Sp} {ar : Arg} {e : Expr} {es : List Expr} {rest : List Stmt} {p0 p1 p2 p3 p4 : Pos}
    (T : SupTxt P K mg fI fd F cc D) (S : NScope N ps ["__class__"] F.scope) (har : (F.params.posonlyargs ++ F.params.args).head? = some ar) (h0 : ps[0]? = some ar.arg) (hsu : F.scope.names.lookup ("super" : Str) = some .globalImplicit)
    (hB : F.body = .Expr (.Call (.Attribute (.Call (.Name "super" p0) [] [] p1) "__init__" p2) (e :: es) [] p3) p4 :: rest)
    (len : ∀ vs H Q E, sp vs H Q E → vs.length = ps.length)
    (hbody : ∀ (A : Around) (outer : List Env) (s : Shared) (H : Hp) (vs : List V) (Q : VK) (E : XK), Room k (A.deeper (envF F fI s.heap.objs.size)) → sp vs H Q E →
      ∃ ta t, PA (ncx CX P w K mg base N F fI A outer s H E) (e :: es) ta ∧ PSs (ncx CX P w K mg base N F fI A outer s H E) rest t ∧ tSup K D fI 0 ta t { nx := fun _ H' => Q .non H', rt := Q } (startF N vs [some (.ref D)]) H)
    (hpl : ∀ (L : Addr), swapsWith (.Call (.Attribute (.Call (.Name "super" p0) [] [] p1) "__init__" p2) (e :: es) [] p3) none p4.line (envF F fI L) = pure false)
    (hev : ∀ (L : Addr), eval (.Call (.Attribute (.Call (.Name "super" p0) [] [] p1) "__init__" p2) (e :: es) [] p3) (envF F fI L) = (do
      let ov ← attributeBase (.Call (.Name "super" p0) [] [] p1) "__init__" (envF F fI L) (eval (.Call (.Name "super" p0) [] [] p1) (envF F fI L))
      standAt p2.atName
      let (f, first) ← holding [ov] (getMethod ov "__init__" (pure false))
      callWith p3 f first (backTo p3 (starEach (e :: es) (envF F fI L))) []))
    (hst : ∀ (L : Addr), starEach (e :: es) (envF F fI L) = (false, eval e (envF F fI L)) :: starEach es (envF F fI L))
    (hst2 : ∀ (L : Addr), (backTo p3 (starEach es (envF F fI L))).any (·.1) = false) :
    FnOk P w K mg base CX (k + 1) fI fd ps sp := by
  refine ⟨len, fun A outer s H args us vs Q E hr e0 hb r hsp => ?_⟩
  have hl := len _ _ _ _ hsp
  have KX : K.In s.heap := e0.mod.kin.keeps fun b o e => (e0.bs b o e).1
  have lim : s.heap.NoLimit := e0.mod.nolimit.keeps fun b o e => (e0.bs b o e).1
  obtain ⟨oc, od, kV, doc, pm, an, ct, osl, rfl, lk⟩ := T.fn
  obtain ⟨cl, cld, csl, hcell⟩ := T.cell
  obtain ⟨ccl, cdd, vcs, ccs, file, tf, hcode, hvs, hfile⟩ := T.code
  obtain ⟨cdD, hD⟩ := T.cls
  have Hcc : H cc = none := by
    have q := (e0.mod.kin _ _ hcell)
    exact (e0.bs _ _ q).2
  have C0 : CellsAt F.cl ["__class__"] [some (.ref D)] s.heap H := by
    rw [T.cl]
    have look : ∀ {y : Str} {c : Addr}, List.lookup y [(("__class__" : Str), cc)] = some c → y = "__class__" ∧ c = cc := fun {y c} z => by
      by_cases hy : y = "__class__"
      · rw [hy] at z
        simp [List.lookup] at z
        exact ⟨hy, z.symm⟩
      · have hy' : (y == ("__class__" : Str)) = false := by simpa using hy
        simp [List.lookup, hy'] at z
    refine ⟨rfl, fun y c z => ?_, fun x y c z1 z2 => ?_, fun i y z => ?_⟩
    · obtain ⟨_, rfl⟩ := look z
      exact ⟨Hcc, _, ⟨_, KX _ _ hcell, rfl⟩⟩
    · exact (look z1).1.trans (look z2).1.symm
    · cases i with
      | zero =>
        have e : y = "__class__" := by simpa using z.symm
        rw [e]
        refine ⟨cc, by simp [List.lookup], fun v hv => ?_⟩
        have ev : v = .ref D := by simpa using hv.symm
        subst ev
        exact ⟨_, rfl, ⟨_, KX _ _ hcell, rfl⟩⟩
      | succ i => simp at z
  refine ks_codeAny_call_defAt (body := F.body) (binds := ps.zip us) hr.depth (KX _ _ lk) rfl lim (PySem.W.codeRec_of KX T.cd) rfl hb S.nocell (fun ⟨n, _⟩ hy => S.par n (List.of_mem_zip hy).1) (fun h₁ hns kp => ?_) S.co S.gen S.kind
  show PySem.wpAt (model P w) (A.deeper (envF F fI s.heap.objs.size)) (.func F.body (envF F fI s.heap.objs.size)) (execs F.body (envF F fI s.heap.objs.size)) _ _ _
  obtain ⟨ta, t, hpa, hps, hq⟩ := hbody A outer s H vs Q E (hr.deeper _) hsp
  have I : Inv (ncx CX P w K mg base N F fI A outer s H E) [] (startF N vs [some (.ref D)]) H { s with heap := h₁, toks := s.toks + (ps.zip us).length } := inv_startN S hr.hd e0 hl r C0 hns kp
  obtain ⟨a, C, hs0, TC, ha, hq⟩ := hq
  obtain ⟨nm, q, N', bs, bm, sn, sub, ab, col, dd, k0, k1, k2, k3, k5, hC, hbm⟩ := TC.cls
  obtain ⟨t0, hobj⟩ := exo_at I.hok ha
  have K1 : K.In h₁ := KX.keeps kp
  obtain ⟨mb, hmb, hbt⟩ := e0.mod.blt
  have bk : ∀ b o, base.get? b = some o → h₁.get? b = some o := fun b o e => kp b o (e0.bs b o e).1
  obtain ⟨oD, hD1, hD2⟩ : ∃ oD, h₁.get? D = some oD ∧ oD.data = .cls cdD := by
    unfold PySem.W.clsIn at hD
    split at hD
    · rename_i c d cd' sl' ho
      cases hD
      exact ⟨_, K1 _ _ ho, rfl⟩
    · cases hD
  have hself : (fun y => (ps.zip us).reverse.lookup y) ar.arg = some (.ref a) := by
    have hN0 : N[0]? = some ar.arg := by
      have q : (ps ++ [("__class__" : Str)])[0]? = some ar.arg := by
        rw [List.getElem?_append_left (by cases ps with | nil => simp at h0 | cons _ _ => simp)]
        exact h0
      rw [← S.pre, List.getElem?_take_of_lt (by cases ps with | nil => simp at h0 | cons _ _ => simp)] at q
      exact q
    have ndP : ps.Nodup := by
      have q := S.nd.sublist (List.take_sublist (ps.length + [("__class__" : Str)].length) N)
      rw [S.pre] at q
      exact (List.nodup_append.mp q).1
    have hv0 : vs[0]? = some (.ref a) := by
      unfold startF at hs0
      have hvl : 0 < vs.length := by
        rw [hl]
        cases ps with | nil => simp at h0 | cons _ _ => simp
      rw [List.getElem?_append_left (by simpa using hvl), List.getElem?_map] at hs0
      cases z : vs[0]? with
      | none => rw [z] at hs0; cases hs0
      | some v => rw [z] at hs0; cases hs0; rfl
    obtain ⟨u, hu, ru⟩ := r.get hv0
    cases ru
    exact zip_look ndP h0 hu
  rw [hB]
  refine PySem.ks_wpAt_mono (PySem.ks_wpAt_execs_cons (Q := SP (ncx CX P w K mg base N F fI A outer s H E) [] { nx := fun _ H' => Q .non H', rt := Q }) (PySem.ks_wpAt_Expr_any (PySem.ks_wpAt_MethodCall (pl := pure false) ?_ (hev _)) I.quiet (hpl _))) (fun fl s' hs => ?_) fun _ _ x => x
  · refine PySem.ks_wpAt_super_base (fd := PySem.W.fnX F.name F.qual F.params F.body F.scope F.cl .none kV doc pm an (.ref F.c) ct) hsu (S.frk _ List.mem_cons_self) (by decide) rfl (K1 _ _ lk) rfl har rfl (K1 _ _ hcode) rfl hvs hfile T.top ?_
    refine PySem.W.ks_loadName_global S.kind hsu (Calls.loadGlobal_builtin (e0.mod.glob.keeps bk) T.sup (hmb.keeps bk) ((hbt _ (by decide)).trans (by kernel_rfl)) ⟨rfl, ?_⟩)
    refine wpAny_loadName_free S.kind (S.frk _ List.mem_cons_self) (c := cc) (v := .ref D) (by show F.cl.lookup _ = _; rw [T.cl]; simp [List.lookup]) ⟨_, K1 _ _ hcell, rfl⟩ ?_
    refine wpAny_loadName_local S.kind (S.par _ (List.mem_of_getElem? h0)) hns hself ?_
    refine PySem.ks_wpAny_isType_cls hD1 hD2 ⟨rfl, ?_⟩
    refine PySem.ks_wpAny_call_super hD1 hD2 hobj rfl (fun c z => by cases z) (PySem.W.looks_mroIn K1 TC.sub) (fun h2 e2 k2 => ?_)
    have K2 : K.In h2 := K1.keeps k2
    have hI : PySem.W.Looks (model P w) h2 (isInstance (.ref a) (.type "ValueError")) true := (PySem.W.InstAt.type (M := model P w) (h := h2) (x := a) (ox := PySem.HandSPX.excO C t0) (C := C) (od := none) ⟨k2 _ _ hobj, rfl, rfl, trivial⟩).andThen (PySem.W.looks_subIn K2 TC.ve)
    obtain ⟨cdC, hcC⟩ : ∃ cdC, PySem.W.clsIn K C = some cdC := ⟨_, by unfold PySem.W.clsIn; rw [hC]⟩
    have aC : a ≠ C := fun z => by
      have q1 := K1 _ _ hC
      rw [← z] at q1
      have q2 := hobj.symm.trans q1
      cases q2
    have hsup := TC.sup
    unfold PySem.W.ks_superIn at hsup
    rw [hcC] at hsup
    refine PySem.W.kxs_getMethod PySem.W.kxs_ValueError e2 (PySem.W.looks_opaque K2 T.opq) (l₀ := cdC.mro) ?_ rfl K2 hsup hI aC (by decide) ?_
    · exact fun A Q E s k q => wpAny_bind ((PySem.W.looks_clsIn K2 hcC) A _ E s k (wpAny_pure q))
    have I2 : Inv (ncx CX P w K mg base N F fI A outer s H E) [] (startF N vs [some (.ref D)]) H { s with heap := h2, toks := s.toks + (ps.zip us).length } := I.kept (h' := h2) (t' := s.toks + (ps.zip us).length) k2
    have hmw : (h2.push (PySem.W.kxs_mw "ValueError.__init__" a)).get? h2.objs.size = some (PySem.W.kxs_mw "ValueError.__init__" a) := Heap.get?_push_at rfl rfl
    have I3 : Inv (ncx CX P w K mg base N F fI A outer s H E) [] (startF N vs [some (.ref D)]) H { s with heap := h2.push (PySem.W.kxs_mw "ValueError.__init__" a), toks := s.toks + (ps.zip us).length + 1 } :=
      I2.kept (h' := h2.push (PySem.W.kxs_mw "ValueError.__init__" a)) (t' := s.toks + (ps.zip us).length + 1) fun b o q => Heap.get?_push_of_some _ q
    have I3p : Inv (ncx CX P w K mg base N F fI A outer s H E) [(h2.objs.size, PySem.W.kxs_mw "ValueError.__init__" a)] (startF N vs [some (.ref D)]) H { s with heap := h2.push (PySem.W.kxs_mw "ValueError.__init__" a), toks := s.toks + (ps.zip us).length + 1 } := by
      refine I3.pins_of fun p hp => ?_
      have hp' : p ∈ [(h2.objs.size, PySem.W.kxs_mw "ValueError.__init__" a)] := hp
      rw [List.mem_singleton] at hp'
      subst hp'
      exact ⟨hmw, I2.hok.fresh (Nat.le_refl _), Nat.ne_of_gt I2.lt, I2.nofs (Nat.le_refl _), fun v z => by cases z⟩
    refine PySem.W.kxs_callWith (i := "ValueError.__init__") (x := a) (by rw [hst]; exact hst2 _) ?_
    rw [hst]
    refine Calls.evalArgs_plain ?_
    have hrun := hpa.run p3 _ _ _ H _ I3p hq
    rw [show starEach (e :: es) (ncx CX P w K mg base N F fI A outer s H E).env = (false, eval e (envF F fI s.heap.objs.size)) :: starEach es (envF F fI s.heap.objs.size) from hst _] at hrun
    refine thn hrun fun us4 s4 ⟨ws, H4, I4, r4, hz, ha4, hq4⟩ => ?_
    obtain ⟨hmw4, _⟩ := I4.pin (h2.objs.size, PySem.W.kxs_mw "ValueError.__init__" a) (List.mem_append_right _ (List.mem_singleton.mpr rfl))
    refine ⟨hmw4, ?_⟩
    show wpAny _ _ (call (.ref h2.objs.size) us4) _ _ _
    obtain ⟨t4, hobj4⟩ := exo_at I4.hok ha4
    have hzl : us4.length ≤ sizeLine := by
      rw [← Paired.length r4, sizeLine_eq]
      omega
    have KC := I4.kIn _ _ hC
    obtain ⟨h4, g4, d4, tk4, os4⟩ := s4
    refine call_ve KC hobj4 hmw4 hzl fun h5 t5 k5 e5 => ?_
    have J := I4.write (t' := tk4) (x := a) (e := a) (o := exo a C none) (by rw [ha4]; exact True.intro) (.inl rfl) k5 ⟨_, e5⟩ (exo_ok e5)
    have eu : upd H4 a (exo a C none) = H4 := by
      funext b
      by_cases hb : b = a
      · rw [hb, upd_same, ha4]
      · rw [upd_ne hb]
    rw [eu] at J
    have J' : Inv (ncx CX P w K mg base N F fI A outer s H E) [] (startF N vs [some (.ref D)]) H4 ⟨h5, g4, d4, tk4, os4⟩ := J.pins_of fun p hp => absurd hp (by simp)
    exact PySem.wpAt_of_wpAny (hps.run [] _ _ _ _ J' hq4)
  · have fin : ∀ {σ' : L2.St} {H' : Hp} {v : V} {u : Value}, Inv (ncx CX P w K mg base N F fI A outer s H E) [] σ' H' s' → L2.RelV v u → Q v H' → CE outer P w H s Q u s' :=
      fun {σ' H' v u} J rv q => ⟨v, H', J.os, J.bare, J.base, J.hok, rv, q⟩
    cases fl with
    | ret u =>
      obtain ⟨v, σ', H', J, rv, q⟩ := hs
      exact fin J rv q
    | next =>
      obtain ⟨σ', H', J, q⟩ := hs
      exact fin (v := V.non) (u := Value.none) J rfl q
    | brk =>
      obtain ⟨_, _, _, q⟩ := hs
      exact False.elim q
    | cont =>
      obtain ⟨_, _, _, q⟩ := hs
      exact False.elim q
end Fx

/-! An own exception as a value: made (by place, by name), its attributes read, isinstance. -/
namespace Fx
open PySem PySem.W PySem.Calls PyProof.Rows PySem.HandSPX
section
variable {M : Model} {A : Around} {E : Value → Shared → Prop} {h : Heap} {g : Array GenState} {d : Drawn} {t : Nat} {os : OsState}
variable {nm q : Str} {C N : Addr} {bs bm bmB : List Value} {hdct : Bool} {sn : List Str} {sub : List Value} {ab : Bool} {col : Option Bool} {dd : Option Addr} {k0 k1 k2 k3 k5 : Option Value} {B newId initId : String}
theorem check_new_kw (F : ExcBaseFacts B newId initId bmB) (hT : ∀ X : String, bm.contains (.type X) = bmB.contains (.type X)) {rest : List Value} {kw : List (Str × Value)} {Q : Unit → Shared → Prop}
    (hC : h.get? C = some (excClassObj nm q C N bs bm hdct sn sub ab col dd k0 k1 k2 k3 k5 newId)) (hq : Q () ⟨h, g, d, t, os⟩) : wpAny M A (checkBuiltinCall newId ⟨.ref C :: rest, kw⟩) Q E ⟨h, g, d, t, os⟩ := by
  have hcont : (Value.ref C :: bm).contains (.type B) = true := by rw [List.contains_cons, hT, F.hasB, Bool.or_true]
  have hstar := F.noStar
  simp only [checkBuiltinCall, F.newKind, F.newSplit, F.newRow]
  repeat (first | refine wpAny_loadPart_at hC ?_ | (refine wpAny_isSubtype_exc hC ?_; rw [hcont]) | refine wpAny_staticBase_exc hC ?_ | refine wpAny_madeBy_exc hC ?_ | simp only [bne_self_eq_false, Bool.false_eq_true, if_false] | wp_step)
  exact hq
end
section
variable {prog : Program} {w : World} {A : Around} {E : Value → Shared → Prop} {R : Result → Shared → Prop} {h : Heap} {g : Array GenState} {d : Drawn} {t : Nat} {os : OsState}
variable {nm q : Str} {C N : Addr} {bs bm bmB : List Value} {hdct : Bool} {sn : List Str} {sub : List Value} {ab : Bool} {col : Option Bool} {dd : Option Addr} {k0 k1 k2 k3 k5 : Option Value} {B newId initId : String}
theorem new_kw (F : ExcBaseFacts B newId initId bmB) (hT : ∀ X : String, bm.contains (.type X) = bmB.contains (.type X)) {rest : List Value} {kw : List (Str × Value)}
    (hC : h.get? C = some (excClassObj nm q C N bs bm hdct sn sub ab col dd k0 k1 k2 k3 k5 newId))
    (hq : R (.ok (.ret (.ref (h.objs.size + 1)))) ⟨(h.push { cls := .type "tuple", data := .seq rest.toArray }).push
      { cls := .ref C, data := .fields #[.ref h.objs.size, .none, .none, .none, .bool false, .none] }, g, d, t, os⟩) (hrest : rest.length ≤ sizeLine) :
    codeAny (model prog w) A (.builtin newId ⟨.ref C :: rest, kw⟩) R ⟨h, g, d, t, os⟩ := by
  have hends := F.ends
  have hcB : (Value.ref C :: bm).contains (.type B) = true := by rw [List.contains_cons, hT, F.hasB, Bool.or_true]
  have hcA : (Value.ref C :: bm).contains (.type "AttributeError") = false := by rw [List.contains_cons, hT, F.noAttr]; rfl
  have hcN : (Value.ref C :: bm).contains (.type "NameError") = false := by rw [List.contains_cons, hT, F.noName]; rfl
  refine codeAny_builtinAt F.entry ?_
  unfold Builtin.«BaseException.__new__»
  refine PySem.wpAt_bind ?_
  show PySem.wpAt _ _ _ (stack >>= _) _ _ _
  refine PySem.wpAt_bind (PySem.wpAt_stack fun p below => PySem.wpAt_of_wpAny ?_)
  wp_walk
  refine PySem.wpAt_of_wpAny ?_
  rw [F.owner]
  repeat (first | with_reducible refine wpAny_madeHere_exc F.canon hC ?_ | with_reducible refine wpAny_loadPart_at hC ?_ | (with_reducible refine wpAny_isSubtype_exc hC ?_; first | rw [hcB] | rw [hcA] | rw [hcN]) | wp_step)
  show R _ _
  rw [Heap.size_push]
  exact hq

theorem type_call_kw (F : ExcBaseFacts B newId initId bmB) (hT : ∀ X : String, bm.contains (.type X) = bmB.contains (.type X)) {rest : List Value} {kw : List (Str × Value)} {fI : Addr} {Q : Fin → Shared → Prop}
    (hC : h.get? C = some (excClassObj nm q C N bs bm hdct sn sub ab col dd k0 k1 k2 k3 k5 newId))
    (hi : W.Looks (model prog w) h (typeLookup (.ref C) "__init__") (some (.ref fI))) (hb : ∀ self, W.Looks (model prog w) h (bindSpecial (.ref fI) self) (.ref fI, [self])) (hrest : rest.length ≤ sizeLine)
    (hq : codeAny (model prog w) A (.call (.ref fI) ⟨.ref (h.objs.size + 1) :: rest, kw⟩)
      (fun r s' => match r with | .ok (.ret v) => v = .none ∧ Q (.done (.ret (.ref (h.objs.size + 1)))) s' | .ok _ => False | .error e => E e s')
      ⟨(h.push (W.kdv_tup rest)).push (excO C h.objs.size), g, d, t, os⟩) :
    wpAny (model prog w) A (Builtin.«type.__call__» ⟨.ref C :: rest, kw⟩) Q E ⟨h, g, d, t, os⟩ := by
  repeat (first | with_reducible refine wpAny_loadPart_at hC ?_ | with_reducible refine wpAny_madeBy_exc hC ?_ | wp_step)
  refine codeAny_call_builtin_code (Code.quiet_builtin _ F.quiet) (check_new_kw F hT hC ?_)
  refine new_kw F hT hC ?_ hrest
  show wpAny _ _ _ _ _ _
  have k : ∀ b o, h.get? b = some o → ((h.push (W.kdv_tup rest)).push (excO C h.objs.size)).get? b = some o := fun b o e => Heap.get?_push_of_some _ (Heap.get?_push_of_some _ e)
  have hC₁ := k _ _ hC
  have hget : ((h.push (W.kdv_tup rest)).push (excO C h.objs.size)).get? (h.objs.size + 1) = some (excO C h.objs.size) := by heap_get
  have hcC : (Value.ref C :: bm).contains (.ref C) = true := by simp
  have i1 := hi.keeps k
  have b1 := (hb (.ref (h.objs.size + 1))).keeps k
  unfold isInstance
  repeat (first | with_reducible refine wpAny_loadPart_at hget ?_ | (with_reducible refine wpAny_isSubtype_exc hC₁ ?_; rw [hcC]) | wp_step)
  show wpAny _ _ (typeLookup (.ref C) _) _ _ _
  refine i1.at ?_
  refine wpAny_holding (wpAny_bind (b1.at ?_))
  refine wpAny_bind (wpAny_call (codeAny_mono hq fun r s' z => ?_))
  rcases r with e | (v | _ | _ | _) <;> first | exact z | exact z.elim | skip
  obtain ⟨rfl, z⟩ := z
  first
    | exact wpAny_pure (wpAny_pure z)
    | (wp_walk; exact z)
theorem call_kw (F : ExcBaseFacts B newId initId bmB) (hT : ∀ X : String, bm.contains (.type X) = bmB.contains (.type X)) {rest : List Value} {kw : List (Str × Value)} {fI : Addr}
    (hC : h.get? C = some (excClassObj nm q C N bs bm hdct sn sub ab col dd k0 k1 k2 k3 k5 newId))
    (hi : W.Looks (model prog w) h (typeLookup (.ref C) "__init__") (some (.ref fI))) (hb : ∀ self, W.Looks (model prog w) h (bindSpecial (.ref fI) self) (.ref fI, [self])) (hrest : rest.length ≤ sizeLine)
    (hq : codeAny (model prog w) (A.under (.builtin "type.__call__" ⟨.ref C :: rest, kw⟩)) (.call (.ref fI) ⟨.ref (h.objs.size + 1) :: rest, kw⟩) (W.InitBack (h.objs.size + 1) R)
      ⟨(h.push (W.kdv_tup rest)).push (excO C h.objs.size), g, d, t, os⟩) :
    codeAny (model prog w) A (.call (.ref C) ⟨rest, kw⟩) R ⟨h, g, d, t, os⟩ := by
  have f1 := tc_lookup
  have f2 := tc_bind (.ref C)
  have hTy : (⟨h, g, d, t, os⟩ : Shared).TypeIs (.ref C) "type" := ⟨_, hC, rfl⟩
  refine codeAny_of_tree ?_
  show wpAny _ _ (callAny (.ref C) _) _ _ _
  repeat (any_goals (first | assumption | with_reducible refine wpAny_loadPart_at hC ?_ | wp_step))
  refine ⟨rfl, ?_⟩
  refine codeAny_call_builtin_at (Code.quiet_builtin _ (by decide +kernel)) entry_typeCall (wpAny_check_type_call_sub hC (type_call_kw F hT hC hi hb hrest ?_))
  refine codeAny_mono hq fun r s' z => ?_
  rcases r with e | (v | _ | _ | _) <;> exact z
end
end Fx

/-! An own exception as a value over the layer. -/
namespace Fx
open PySem PySem.Spec PyProof.Rows L2
/-- C(e, .., k = v, ..) as a value: the exception at a and its dict are tracked -/
def tMkV (C : Addr) (n m : Nat) (sp : Sp) (gV : List V → List V → List V) (t tk : TA) : TE := fun σ H Q => t σ H fun vs H1 => tk σ H1 fun zs H2 => vs.length = n ∧ zs.length = m ∧ n ≤ 1000 ∧
  ∀ a, H2 a = none → sp (gV (.ref a :: vs) zs) (upd H2 a (exo a C none)) (fun v H3 => v = .non ∧ Q (.ref a) H3) (fun _ _ _ => False)
section
variable {X : Cx} {CX : CXT} {k n : Nat} {fI C : Addr} {fd : FuncData} {ps ks : List Str} {sp : Sp} {x : Str} {p pos : Pos} {e : Expr} {es : List Expr} {kws : List Keyword} {t tk : TA} {g : List Value → List Value → List Value} {gV : List V → List V → List V}
theorem run_exv {pins : List (Addr × Obj)} {σ : L2.St} {H1 : Hp} {s1 : Shared} {Q : VK} {us ws : List Value} {vs zs : List V} (T : OexC X.K C) (iC : PySem.W.findIn X.K (.ref C) "__init__" = some (some (.ref fI))) (tI : PySem.W.typeIn X.K (.ref fI) = some (.type "function"))
    (F1 : FnOk X.prog X.w X.K X.mg X.base CX k fI fd ps sp) (hr : Room (k + 1) X.A) (hb : KBn X.K fd ps (n + 1) ks g gV) (hx : Passes CX X (fun _ _ _ => False)) (I1 : Inv X pins σ H1 s1) (r : Vals vs us) (rz : Vals zs ws) (l1 : vs.length = n) (l2 : zs.length = ks.length) (hn1 : n ≤ 1000)
    (q1 : ∀ a, H1 a = none → sp (gV (.ref a :: vs) zs) (upd H1 a (exo a C none)) (fun v H3 => v = .non ∧ Q (.ref a) H3) (fun _ _ _ => False)) :
    wpAny (model X.prog X.w) X.A (call (.ref C) us (ks.zip ws)) (EP X pins σ Q) X.xe s1 := by
  obtain ⟨nm, q, N, bs, bm, sn, sub, ab, col, dd, k0, k1, k2, k3, k5, hC, hbm⟩ := T.cls
  obtain ⟨hp, g', dr, tok, os⟩ := s1
  have hsz : hp.objs.size ≤ hp.objs.size + 1 := Nat.le_succ _
  have hn : H1 (hp.objs.size + 1) = none := I1.hok.fresh hsz
  have hq := q1 (hp.objs.size + 1) hn
  have kk : ∀ b o, hp.get? b = some o → ((hp.push (PySem.W.kdv_tup us)).push (PySem.HandSPX.excO C hp.objs.size)).get? b = some o := fun b o e => Heap.get?_push_of_some _ (Heap.get?_push_of_some _ e)
  have hget : ((hp.push (PySem.W.kdv_tup us)).push (PySem.HandSPX.excO C hp.objs.size)).get? (hp.objs.size + 1) = some (PySem.HandSPX.excO C hp.objs.size) := by heap_get
  have I2 : Inv X pins σ (upd H1 (hp.objs.size + 1) (exo (hp.objs.size + 1) C none)) ⟨(hp.push (PySem.W.kdv_tup us)).push (PySem.HandSPX.excO C hp.objs.size), g', dr, tok, os⟩ :=
    I1.laid (t' := tok) (a := hp.objs.size + 1) (o := exo (hp.objs.size + 1) C none) (h' := (hp.push (PySem.W.kdv_tup us)).push (PySem.HandSPX.excO C hp.objs.size)) kk hsz (exo_ok hget)
  have r1 : Vals (V.ref (hp.objs.size + 1) :: vs) (Value.ref (hp.objs.size + 1) :: us) := .cons rfl r
  have r2 := hb.rel r1 rz
  have n1 : (Value.ref (hp.objs.size + 1) :: us).length = n + 1 := by rw [List.length_cons, ← r.length, l1]
  have hus : us.length ≤ sizeLine := by
    rw [← Paired.length r, sizeLine_eq]
    omega
  refine wpAny_call (call_kw F.excBase_ValueError (fun Y => PySem.HandSPX.refsVE_contains Y bm hbm) (I1.kIn _ _ hC) (PySem.W.looks_findIn I1.kIn iC) (fun self => PySem.W.bind_fn I1.kIn self tI) hus
    (codeAny_mono (F1.run _ X.stack _ _ ⟨Value.ref (hp.objs.size + 1) :: us, ks.zip ws⟩ (g (Value.ref (hp.objs.size + 1) :: us) ws) _ _ (fun _ _ _ => False) (hr.make C us (ks.zip ws)) (I2.env0.make C us (ks.zip ws)) (hb.to _ (Value.ref (hp.objs.size + 1) :: us) ws I2.kIn n1 (rz.length.symm.trans l2)) r2 hq) fun r s' hq' => ?_))
  cases r with
  | error er => exact hx pins σ _ _ er s' I2 hq'
  | ok fl =>
    cases fl with
    | ret u =>
      obtain ⟨v, H', I3, rv, ev, q3⟩ := I2.after hq'
      subst ev
      exact ⟨rv, ⟨V.ref (hp.objs.size + 1), H', I3, rfl, q3⟩⟩
    | next => exact False.elim hq'
    | brk => exact False.elim hq'
    | cont => exact False.elim hq'
theorem pe_exv (T : OexC X.K C) (iC : PySem.W.findIn X.K (.ref C) "__init__" = some (some (.ref fI))) (tI : PySem.W.typeIn X.K (.ref fI) = some (.type "function"))
    (F1 : FnOk X.prog X.w X.K X.mg X.base CX k fI fd ps sp) (hr : Room (k + 1) X.A) (hg : Gl X x) (hm : X.mg x = some (.ref C)) (hb : KBn X.K fd ps (n + 1) ([] : List Str) g gV) (hx : Passes CX X (fun _ _ _ => False)) (ha : PA X (e :: es) t)
    (hdb : (x == ("__debug__" : Str)) = false := by decide) (he : starEach (e :: es) X.env = (false, eval e X.env) :: starEach es X.env := by rfl) (hpl : (backTo pos (starEach es X.env)).any (·.1) = false := by rfl) :
    PE X (.Call (.Name x p) (e :: es) [] pos) (tMkV C n 0 sp gV t tNil) := by
  refine ⟨fun pins s σ H Q I h => ?_⟩
  refine wpAny_Call_Name_kw (ld_glob I hg hm ?_ hdb)
  refine PySem.W.callWith_K (h₀ := X.base) I.ok.mod.kin T.kC (thn (ha.run pos pins s σ H _ I h) fun us s1 ⟨vs, H1, I1, r, l1, l2, hn, q⟩ => ⟨I1.kIn, ?_⟩) he hpl
  show wpAny _ _ (call (.ref C) us) _ _ _
  exact run_exv (ws := []) (ks := []) T iC tI F1 hr hb hx I1 r .nil l1 rfl hn q
theorem pe_exvK (T : OexC X.K C) (iC : PySem.W.findIn X.K (.ref C) "__init__" = some (some (.ref fI))) (tI : PySem.W.typeIn X.K (.ref fI) = some (.type "function"))
    (F1 : FnOk X.prog X.w X.K X.mg X.base CX k fI fd ps sp) (hr : Room (k + 1) X.A) (hg : Gl X x) (hm : X.mg x = some (.ref C)) (hb : KBn X.K fd ps 1 ks g gV) (hx : Passes CX X (fun _ _ _ => False)) (hkw : PK X kws tk)
    (hall : (backToKw pos (keywordEach kws X.env)).all (·.1.isSome) = true := by rfl) (hks : (backToKw pos (keywordEach kws X.env)).filterMap (·.1) = ks := by rfl) (hdb : (x == ("__debug__" : Str)) = false := by decide)
    (hpl : ((backTo pos (starEach [] X.env)).any (·.1) || (backToKw pos (keywordEach kws X.env)).any (·.1.isNone)) = false := by rfl) :
    PE X (.Call (.Name x p) [] kws pos) (tMkV C 0 ks.length sp gV tNil tk) := by
  refine ⟨fun pins s σ H Q I h => ?_⟩
  refine wpAny_Call_Name_kw (ld_glob I hg hm ?_ hdb)
  refine PySem.W.callWith_KW0 (h₀ := X.base) I.ok.mod.kin T.kC hall ?_ hpl
  refine thn (hkw.run pos pins s σ H _ I h) fun ws s2 ⟨zs, H2, I2, rz, l1, l2, hn, q2⟩ => ⟨I2.kIn, ?_⟩
  rw [hks]
  exact run_exv (us := []) (vs := []) T iC tI F1 hr hb hx I2 .nil rz rfl l2 (Nat.zero_le _) q2
/-! ### attributes of an exception that is held as a value -/
structure ExAttr (K : PySem.W.Frag) (C : Addr) : Prop where
  ga : PySem.W.findIn K (.ref C) "__getattribute__" = some (some (.builtin "BaseException.__getattribute__"))
  gg : PySem.W.findIn K (.ref C) "__getattr__" = some none
  hs : PySem.W.subIn K (.ref C) (.type "BaseException") = some true
  hd : PySem.W.hasDictIn K C = true
  ha : PySem.W.findIn K (.ref C) "__class__" = some (some (.builtin "object.__class__"))
  hn : PySem.W.specialIn K (.builtin "object.__class__") "__get__" = some (some (.builtin "getset_descriptor.__get__"))
  ht : PySem.W.takesIn K (.builtin "object.__class__") = some true
  hm : PySem.W.mroIn K C (.type "object") = some true
def tExAt (K : PySem.W.Frag) (te : TE) (f : Str) : TE := fun σ H Q => te σ H fun x H1 => ∃ (a C d : Addr) (fs : List (Str × V)) (v : V), x = .ref a ∧ H1 a = some (exo a C (some d)) ∧ H1 d = some (exd d fs) ∧ ExAttr K C ∧ PySem.W.findIn K (.ref C) f = some none ∧ fs.lookup f = some v ∧ Q v H1
theorem exInst {pins : List (Addr × Obj)} {σ : L2.St} {H : Hp} {s : Shared} {a d : Addr} {fs : List (Str × V)} (I : Inv X pins σ H s) (ha : H a = some (exo a C (some d))) (hd : H d = some (exd d fs)) : ∃ oe od, PySem.W.InstAt s.heap a oe C (some od) ∧
    ∀ f v, fs.lookup f = some v → ∃ u, RelV v u ∧ PySem.W.lookIn f od = some (some u) := by
  obtain ⟨t1, ho⟩ := exo_at I.hok ha
  obtain ⟨mA, hns, rel⟩ := exd_at I.hok hd
  obtain ⟨od, hod, hl⟩ := lookIn_ns hns
  refine ⟨_, od, ⟨ho, rfl, rfl, hod⟩, fun f v hv => ?_⟩
  obtain ⟨u, hu, ru⟩ := RelO.some_of (v := v) (o := mA f) (by rw [← hv]; exact rel f)
  exact ⟨u, ru, by rw [hl f, hu]⟩
theorem pe_exat {f : Str} {te : TE} (he : PE X e te) (hb : attributeBase e f X.env (eval e X.env) = eval e X.env := by rfl) : PE X (.Attribute e f pos) (tExAt X.K te f) := by
  refine ⟨fun pins s σ H Q I h => ?_⟩
  refine attr_of hb (thn (he.run pins s σ H _ I h) fun u s1 ⟨x, H1, I1, rx, a, C, d, fs, v, ex, ha, hd, T, hno, hl, q⟩ => ?_)
  subst ex
  obtain rfl : u = Value.ref a := rx
  obtain ⟨oe, od, J, hlk⟩ := exInst I1 ha hd
  obtain ⟨u, ru, hu⟩ := hlk f v hl
  exact PySem.HandSPX.exc_get I1.kIn J T.ga T.gg T.hs (PySem.W.findObj_own T.hd hno rfl hu) (handed_of ru) ⟨v, H1, I1.tok _, ru, q⟩
/-! ### isinstance of such an exception -/
/-- at a: an exception of the class at C (its dict: any) -/
def ExAtC (H : Hp) (a C : Addr) : Prop := H a = some (exo a C none) ∨ ∃ d fs, H a = some (exo a C (some d)) ∧ H d = some (exd d fs)
def rIsX (K : PySem.W.Frag) : List V → Hp → VK → Prop := fun xs H Q => ∃ (a C : Addr) (c : V) (cv : Value) (b : Bool), xs = [.ref a, c] ∧ ExAtC H a C ∧ ExAttr K C ∧ (∀ u, RelV c u → u = cv) ∧ PySem.W.kitOne K (.ref C) cv = some b ∧ Q (.bl b) H
theorem exInst0 {pins : List (Addr × Obj)} {σ : L2.St} {H : Hp} {s : Shared} {a : Addr} (I : Inv X pins σ H s) (h : ExAtC H a C) : ∃ oe od, PySem.W.InstAt s.heap a oe C od := by
  rcases h with h | ⟨d, fs, h1, h2⟩
  · obtain ⟨t1, ho⟩ := exo_at I.hok h
    exact ⟨_, none, ho, rfl, rfl, trivial⟩
  · obtain ⟨oe, od, J, _⟩ := exInst I h1 h2
    exact ⟨oe, some od, J⟩
theorem call_isX : CallR X (.builtin "isinstance") (rIsX X.K) := by
  intro pins s σ H xs us Q I r h
  obtain ⟨a, C, c, cv, b, rfl, hx, T, hcv, e, q⟩ := h
  cases r with
  | cons rx rr =>
    cases rr with
    | cons rt rr =>
      cases rr
      cases rx
      have ec := hcv _ rt
      subst ec
      obtain ⟨oe, od, J⟩ := exInst0 I hx
      exact PySem.W.kia_one (PySem.W.kitx_exc (by obtain ⟨cd, hc, _⟩ := PySem.W.any_some T.hd; rw [hc]; rfl) T.ga T.gg T.hs T.ha T.hn T.ht T.hm) I.kIn J e (fun z => nomatch z) fun tk => ⟨.bl b, H, I.kept (t' := tk) fun _ _ z => z, rfl, q⟩
/-! ### C(), a class without an own __init__ -/
def tExc0 (C : Addr) : TE := fun _ H Q => ∀ a, H a = none → Q (.ref a) (upd H a (exo a C none))
theorem pe_exc0 (q : PySem.W.excIn X.K C [.type "ValueError", .type "Exception", .type "BaseException", .type "object"] "ValueError.__new__" = true) (kC : PySem.W.keepIn X.K (.ref C) = true) (hg : Gl X x) (gC : X.mg x = some (.ref C)) (hdb : (x == ("__debug__" : Str)) = false := by decide) :
    PE X (.Call (.Name x p) [] [] pos) (tExc0 C) := by
  refine ⟨fun pins s σ H Q I h => ?_⟩
  refine wpAny_Call_Name_kw (ld_glob I hg gC ?_ hdb)
  refine PySem.W.callWith_K0 I.kIn kC ?_
  obtain ⟨bm, N, nm, qn, bs, hdct, sn, sub, ab, col, dd, k0, k1, k2, k3, k5, mN, hC, hN, hni, T⟩ := exc_obj I.kIn q
  refine wpAny_call_exc_subT F.excBase_ValueError T hC hN hni (fun h' a hm => ?_) (by show 0 ≤ sizeLine; exact Nat.zero_le _)
  have hn : H a = none := I.hok.gone hm.new
  obtain ⟨t, ht, _, _⟩ := hm.there
  exact ⟨.ref a, upd H a (exo a C none), I.laidN hm.keeps hm.new hn (exo_ok ht), rfl, h a hn⟩
theorem pmk_exc0 (q : PySem.W.excIn X.K C [.type "ValueError", .type "Exception", .type "BaseException", .type "object"] "ValueError.__new__" = true) (kC : PySem.W.keepIn X.K (.ref C) = true) (r : Raises X (.ref C)) (hg : Gl X x) (gC : X.mg x = some (.ref C)) (hdb : (x == ("__debug__" : Str)) = false := by decide) :
    PMk X (.Call (.Name x p) [] [] pos) (fun σ H Q => Q (.ref C) none H) := by
  intro pins s σ H Q I h
  refine wpAny_Call_Name_kw (ld_glob I hg gC ?_ hdb)
  refine PySem.W.callWith_K0 I.kIn kC ?_
  obtain ⟨bm, N, nm, qn, bs, hdct, sn, sub, ab, col, dd, k0, k1, k2, k3, k5, mN, hC, hN, hni, T⟩ := exc_obj I.kIn q
  refine wpAny_call_exc_subT F.excBase_ValueError T hC hN hni (fun h' a hm => ?_) (by show 0 ≤ sizeLine; exact Nat.zero_le _)
  exact mk_of I hm r h (I.hok.gone hm.new)
end
end Fx
namespace Fx
open PySem PySem.Spec PyProof.Rows L2
/-- H' is H but for the exception a of the class C and its own dict d, which is new -/
def MadeX (H H' : Hp) (a C d : Addr) (fs : List (Str × V)) : Prop := H d = none ∧ d ≠ a ∧ H' a = some (exo a C (some d)) ∧ H' d = some (exd d fs) ∧ ∀ b, b ≠ a → b ≠ d → H' b = H b
def spInit1 (K : PySem.W.Frag) (D fI : Addr) (f : Str) : Sp := fun vs H Q _ => ∃ (a C : Addr) (y : V), vs = [.ref a, y] ∧ XC K C D fI ∧ PySem.W.findIn K (.ref C) f = some none ∧ H a = some (exo a C none) ∧ ∀ (d : Addr) (H' : Hp), MadeX H H' a C d [(f, y)] → Q .non H'
def spInit2 (K : PySem.W.Frag) (D fI : Addr) (f g : Str) : Sp := fun vs H Q _ => ∃ (a C : Addr) (y z : V), vs = [.ref a, y, z] ∧ XC K C D fI ∧ PySem.W.findIn K (.ref C) f = some none ∧ PySem.W.findIn K (.ref C) g = some none ∧ H a = some (exo a C none) ∧
  ∀ (d : Addr) (H' : Hp), MadeX H H' a C d [(g, z), (f, y)] → Q .non H'
end Fx

/-! Promises of defs that are only called where no repr is under way (repr asks that). -/
namespace Gd
open PySem PySem.Spec PyProof.Rows L2
structure RoomG (k : Nat) (A : Around) : Prop extends Room k A where
  gd : A.guards = some []
theorem RoomG.mono {j k : Nat} {A : Around} (r : RoomG k A) (h : j ≤ k) : RoomG j A := ⟨r.toRoom.mono h, r.gd⟩
theorem RoomG.deeper {k : Nat} {A : Around} (r : RoomG (k + 1) A) (env : Env) : RoomG k (A.deeper env) := ⟨r.toRoom.deeper env, r.gd⟩
structure FnG (P : Program) (w : World) (K : PySem.W.Frag) (mg : Str → Option Value) (base : Heap) (CX : CXT) (k : Nat) (f : Addr) (fd : FuncData) (ps : List Str) (sp : Sp) : Prop where
  len : ∀ vs H Q E, sp vs H Q E → vs.length = ps.length
  run : ∀ (A : Around) (outer : List Env) (s : Shared) (H : Hp) (args : Args) (us : List Value) (vs : List V) (Q : VK) (E : XK), RoomG k A → Env0 P w K mg base A outer s H → BindsTo s fd args (ps.zip us) → Vals vs us → sp vs H Q E →
    codeAny (model P w) A (.call (.ref f) args) (CR CX outer P w H s Q E) s
section
variable {P : Program} {w : World} {K : PySem.W.Frag} {mg : Str → Option Value} {base : Heap} {CX : CXT} {k : Nat} {f : Addr} {fd : FuncData} {ps : List Str} {sp : Sp}
theorem FnG.of (F : FnOk P w K mg base CX k f fd ps sp) : FnG P w K mg base CX k f fd ps sp := ⟨F.len, fun A outer s H args us vs Q E hr => F.run A outer s H args us vs Q E hr.toRoom⟩
theorem FnG.mono {j : Nat} (F : FnG P w K mg base CX j f fd ps sp) (h : j ≤ k) : FnG P w K mg base CX k f fd ps sp := ⟨F.len, fun A outer s H args us vs Q E hr => F.run A outer s H args us vs Q E (hr.mono h)⟩
/-- a def by its body, as fn_of tells it, the guards told too -/
theorem fn_ofG {name qual : Str} {params : Arguments} {body : List Stmt} {scope : Scope} {dV kV doc pm cdv ct oc : Value} {an od : Option Addr} {osl : Array (Option Value)} {N : List Str}
    (lk : K.lookup f = some ⟨oc, od, .func (PySem.W.fnOf name qual params body scope dV kV doc pm an cdv ct), osl⟩) (hcd : PySem.W.codeIn K cdv qual = true) (S : FnScope N ps scope) (len : ∀ vs H Q E, sp vs H Q E → vs.length = ps.length)
    (hb : ∀ (A : Around) (outer : List Env) (s : Shared) (H : Hp) (vs : List V) (Q : VK) (E : XK), RoomG k (A.deeper (envOfC qual scope s.heap.objs.size f cdv)) → sp vs H Q E →
      ∃ t, PSs (cxOf CX P w K mg base N qual scope f cdv A outer s H E) body t ∧ t { nx := fun _ H' => Q .non H', rt := Q } (start N vs) H) :
    FnG P w K mg base CX (k + 1) f (PySem.W.fnOf name qual params body scope dV kV doc pm an cdv ct) ps sp := by
  refine ⟨len, fun A outer s H args us vs Q E hr e0 hbi r hsp => ?_⟩
  have kept : ∀ b o, base.get? b = some o → s.heap.get? b = some o := fun b o e => (e0.bs b o e).1
  have KX := e0.mod.kin.keeps kept
  have lim := e0.mod.nolimit.keeps kept
  refine codeAny_call_function hr.toRoom.depth (KX _ _ lk) rfl S.co S.gen rfl (PySem.W.codeRec_of KX hcd) (hbi _ _ _ _ ?_)
  refine wpAny_newFunctionEnv_cells S.kind (fun ⟨n, v⟩ hy => ?_) fun env he s1 x => ?_
  · rcases S.par n (List.of_mem_zip hy).1 with q | q
    · exact .inl q
    · exact .inr ⟨q, PySem.W.cellsFrom_some _ _ _ (.inl q)⟩
  subst he
  refine ⟨lim.keeps x.toInCall.keep, codeAny_func ?_⟩
  obtain ⟨t, ht, hq⟩ := hb A outer s H vs Q E (hr.deeper _) hsp
  refine wpAny_mono (ht.run [] s1 (start N vs) H _ (inv_start S hr.hd e0 (len _ _ _ _ hsp) r x) hq) (fun fl s' hs => ?_) fun e s' hs => hs
  cases fl with
  | ret u =>
    obtain ⟨v, σ', H', J, rv, q⟩ := hs
    exact ⟨v, H', J.os, J.bare, J.base, J.hok, rv, q⟩
  | next =>
    obtain ⟨σ', H', J, q⟩ := hs
    exact ⟨.non, H', J.os, J.bare, J.base, J.hok, rfl, q⟩
  | brk => exact False.elim hs.choose_spec.choose_spec.2
  | cont => exact False.elim hs.choose_spec.choose_spec.2
theorem okG {x qual : Str} {st : Stmt} {N : List Str} (F : Fun K x qual st f fd) (S : FnScope N ps (defScope st)) (len : ∀ vs H Q E, sp vs H Q E → vs.length = ps.length)
    (hbody : ∀ (cdv : Value) (A : Around) (outer : List Env) (s : Shared) (H : Hp) (vs : List V) (Q : VK) (E : XK), RoomG k (A.deeper (envOfC qual (defScope st) s.heap.objs.size f cdv)) → sp vs H Q E →
      ∃ t, PSs (cxOf CX0 P w K mg base N qual (defScope st) f cdv A outer s H E).nox (defBody st) t ∧ t { nx := fun _ H' => Q .non H', rt := Q } (start N vs) H) : FnG P w K mg base CX0 (k + 1) f fd ps sp := by
  obtain ⟨oc, od, kV, doc, pm, an, cdv, ct, osl, rfl, lk, hcd⟩ := F.ex
  refine fn_ofG lk hcd S len fun A outer s H vs Q E hr hsp => ?_
  obtain ⟨t, h, q⟩ := hbody cdv A outer s H vs Q E hr hsp
  exact ⟨t, h.nox, q⟩
theorem okGX {x qual : Str} {st : Stmt} {N : List Str} (F : Fun K x qual st f fd) (S : FnScope N ps (defScope st)) (len : ∀ vs H Q E, sp vs H Q E → vs.length = ps.length)
    (hbody : ∀ (cdv : Value) (A : Around) (outer : List Env) (s : Shared) (H : Hp) (vs : List V) (Q : VK) (E : XK), RoomG k (A.deeper (envOfC qual (defScope st) s.heap.objs.size f cdv)) → sp vs H Q E →
      ∃ t, PSs (cxOf CX P w K mg base N qual (defScope st) f cdv A outer s H E) (defBody st) t ∧ t { nx := fun _ H' => Q .non H', rt := Q } (start N vs) H) : FnG P w K mg base CX (k + 1) f fd ps sp := by
  obtain ⟨oc, od, kV, doc, pm, an, cdv, ct, osl, rfl, lk, hcd⟩ := F.ex
  exact fn_ofG lk hcd S len fun A outer s H vs Q E hr hsp => hbody cdv A outer s H vs Q E hr hsp
end
section
variable {X : Cx} {CX : CXT} {k : Nat} {f : Addr} {fd : FuncData} {ps : List Str} {sp : Sp} {dvs : List V} {ds : List Value} {E : XK} {x : Str} {p pos : Pos} {e : Expr} {es : List Expr} {t : TA}
theorem run_fnG {pins : List (Addr × Obj)} {σ : L2.St} {H : Hp} {s : Shared} {Q : VK} {us : List Value} {vs : List V} (F : FnG X.prog X.w X.K X.mg X.base CX k f fd ps sp) (hr : RoomG k X.A) (hb : L2.Binds X.K fd ps ds) (hd : Vals dvs ds) (hx : Passes CX X E)
    (I : Inv X pins σ H s) (r : Vals vs us) (h : sp (vs ++ dvs) H Q E) : wpAny (model X.prog X.w) X.A (call (.ref f) us) (EP X pins σ Q) X.xe s := by
  have r2 : Vals (vs ++ dvs) (us ++ ds) := r.append hd
  refine wpAny_call (codeAny_mono (F.run X.A X.stack s H ⟨us, []⟩ (us ++ ds) (vs ++ dvs) Q E hr I.env0 (hb s us I.kIn (r2.length.symm.trans (F.len _ _ _ _ h))) r2 h) fun r s' hq => ?_)
  cases r with
  | error e => exact hx pins σ H s e s' I hq
  | ok fl => cases fl <;> first | exact I.after hq | exact False.elim hq
theorem pe_callG (F : FnG X.prog X.w X.K X.mg X.base CX k f fd ps sp) (hr : RoomG k X.A) (hg : Gl X x) (hm : X.mg x = some (.ref f)) (hk : PySem.W.keepIn X.K (.ref f) = true) (hb : L2.Binds X.K fd ps ds) (hd : Vals dvs ds) (hx : Passes CX X E)
    (ha : PA X (e :: es) t) (hdb : (x == ("__debug__" : Str)) = false := by decide) (he : starEach (e :: es) X.env = (false, eval e X.env) :: starEach es X.env := by rfl) (hpl : (backTo pos (starEach es X.env)).any (·.1) = false := by rfl) :
    PE X (.Call (.Name x p) (e :: es) [] pos) (tCall sp dvs E t) :=
  ⟨fun pins s σ H Q I h => wpAny_Call_Name_kw (ld_glob I hg hm (PySem.W.callWith_K (h₀ := X.base) I.ok.mod.kin hk (thn (ha.run pos pins s σ H _ I h) fun us s1 ⟨vs, H1, I1, r, q⟩ => ⟨I1.kIn, run_fnG F hr hb hd hx I1 r q⟩) he hpl) hdb)⟩
end
/-! ### repr -/
/-- data of any form, dicts with plain keys too -/
def RdV (X : Cx) (H : Hp) (v : V) (d : PyData) : Prop := ∀ (pins : List (Addr × Obj)) (σ : L2.St) (s : Shared), Inv X pins σ H s → ∀ u, RelV v u → ∃ as, Reads s.heap u d as ∧ (d.hasDict = true → sysModules ∉ as)
theorem RdV.dp {X : Cx} {H : Hp} {v : V} {d : PyData} (h : Dp X.K H v d) (hn : d.hasDict = false) : RdV X H v d := fun pins σ s I u r => by
  obtain ⟨as, q⟩ := Dp.reads I d v u h r
  exact ⟨as, q, fun z => by rw [hn] at z; cases z⟩
/-- repr of a list or a tuple -/
def rRepr (X : Cx) : List V → Hp → VK → Prop := fun xs H Q => ∃ (a : Addr) (d : PyData), xs = [.ref a] ∧ RdV X H (.ref a) d ∧ d.showable = true ∧ d.depth ≤ 60 ∧ d.shown.length ≤ sizeLine ∧ Q (.str d.shown) H
theorem call_repr {X : Cx} (hg : X.A.guards = some []) (hu : X.A.units + 64 < cLine) : CallR X (.builtin "repr") (rRepr X) := by
  intro pins s σ H xs us Q I r h
  obtain ⟨a, d, rfl, hd, hs, hz, hl, q⟩ := h
  cases r with
  | cons rx rr =>
    cases rr
    obtain ⟨as, h1, h2⟩ := hd pins σ s I _ rx
    cases rx
    exact repr_of_reads' h1 hs h2 hg (by omega) (fun _ _ e => e) (fun h' u tk hk => ⟨.str d.shown, H, I.kept (h' := h') (t' := tk) hk, ⟨_, rfl⟩, q⟩) hl
/-! ### the law's own call -/
section
variable {P : Program} {w : World} {K : PySem.W.Frag} {mg mb : Str → Option Value} {k : Nat} {fa a : Addr} {fd : FuncData} {x : Str} {sp : Sp} {s₁ : Shared} {vs : List Value} {ns : List Int}
/-- from an abstract heap that tracks nothing but the script -/
theorem law_at {H : Hp} (KX : K.In s₁.heap) (hns : s₁.heap.Ns mainGlobals mg) (hb : s₁.heap.Ns builtinsNs mb) (hbb : ∀ x : Str, x ≠ "__name__" → mb x = bootBuiltins x) (hlim : s₁.heap.NoLimit) (hg : s₁.gens = #[])
    (hobj : s₁.heap.get? a = some { cls := .type "list", data := .seq vs.toArray }) (hr : RoomG k callerA)
    (F : ∀ base : Heap, K.In base → base.Ns mainGlobals mg → FnG P w K mg base CX0 k fa fd [x] sp) (hbind : ∀ (s : Shared) (u : Value), BindsTo s fd ⟨[u], []⟩ [(x, u)])
    (hO : Only H) (hok : HOk P w H s₁.heap) (hA : ∀ b, b ≠ a → H b = none) (hK : H a ≠ none → K.lookup a = none) (hsp : sp [.ref a] H (fun v _ => v = .bl true) fun _ _ _ => False) :
    codeAny (model P w) callerA (.call (.ref fa) ⟨[.ref a], []⟩) (fun r s' => r = .ok (.ret (.bool true)) ∧ OldK s₁.heap s'.heap ∧ s'.os = s₁.os ∧ AllBare s'.gens) s₁ := by
  have free : ∀ {b : Addr} {o : Obj} {es : Array DictEntry} {ep : Nat}, s₁.heap.get? b = some o → o.data = .dict es ep → H b = none := fun {b o es ep} e d => hA b fun z => by
    subst z
    rw [hobj] at e
    cases e
    cases d
  have ns' : ∀ {b : Addr} {m : Str → Option Value}, s₁.heap.Ns b m → (hidT s₁.heap H).Ns b m := fun {b m} ⟨o, es, ep, e, d, r⟩ => ⟨o, es, ep, hidT_get e (free e d), d, r⟩
  have KX' : K.In (hidT s₁.heap H) := fun b o e => hidT_get (KX b o e) (by
    by_cases z : b = a
    · by_cases q : H a = none
      · rw [z]
        exact q
      · rw [z, hK q] at e
        cases e
    · exact hA b z)
  have e0 : Env0 P w K mg (hidT s₁.heap H) callerA [] s₁ H := by
    obtain ⟨mc, h1, h2⟩ := hlim
    exact ⟨rfl, ⟨KX', ns' hns, ⟨mb, ns' hb, hbb⟩, mc, ns' h1, h2⟩, fun b o e => of_hidT e, Nat.le_of_eq (hidT_size _ _), trivial, fun b z => absurd (show b ∈ ([] : List Addr) from z) (by simp), hok, .of_eq hg⟩
  refine codeAny_mono ((F _ KX' (ns' hns)).run callerA [] s₁ H ⟨[.ref a], []⟩ [.ref a] [.ref a] _ _ hr e0 (hbind s₁ (.ref a)) (.cons rfl .nil) hsp) fun r s' h => ?_
  cases r with
  | error e => exact False.elim h
  | ok fl =>
    cases fl with
    | next => exact False.elim h
    | brk => exact False.elim h
    | cont => exact False.elim h
    | ret u =>
      obtain ⟨v, H', os, bare, un, hok', r', q⟩ := h
      cases (show v = .bl true from q)
      cases (show u = Value.bool true from r')
      refine ⟨rfl, OldK.of_keep fun b o e => ?_, os, bare⟩
      rcases hO b with q | ⟨ob, xs, q⟩
      · exact un.keep b o e q (fun z => absurd (show b ∈ ([] : List Addr) from z) (by simp)) (by simp)
      · have e1 := (hok b _ q).1
        rw [e] at e1
        cases e1
        exact (hok' b _ (un.frzs b o _ q)).1
theorem law_callG (KX : K.In s₁.heap) (hns : s₁.heap.Ns mainGlobals mg) (hb : s₁.heap.Ns builtinsNs mb) (hbb : ∀ x : Str, x ≠ "__name__" → mb x = bootBuiltins x) (hlim : s₁.heap.NoLimit) (hg : s₁.gens = #[])
    (hobj : s₁.heap.get? a = some { cls := .type "list", data := .seq vs.toArray }) (hi : IntsAre vs ns) (hl : ns.length ≤ sizeLine) (hr : RoomG k callerA)
    (F : ∀ base : Heap, K.In base → base.Ns mainGlobals mg → FnG P w K mg base CX0 k fa fd [x] sp) (hbind : ∀ (s : Shared) (u : Value), BindsTo s fd ⟨[u], []⟩ [(x, u)])
    (hsp : ∀ H : Hp, Only H → SqL K H a (ns.map V.int) → sp [.ref a] H (fun v _ => v = .bl true) fun _ _ _ => False) :
    codeAny (model P w) callerA (.call (.ref fa) ⟨[.ref a], []⟩) (fun r s' => r = .ok (.ret (.bool true)) ∧ OldK s₁.heap s'.heap ∧ s'.os = s₁.os ∧ AllBare s'.gens) s₁ := by
  cases hk : K.lookup a with
  | some o =>
    have e := KX a o hk
    rw [hobj] at e
    cases e
    have hO : Only (fun _ => none) := fun b => .inl rfl
    exact law_at KX hns hb hbb hlim hg hobj hr F hbind hO (fun b u z => by cases z) (fun b _ => rfl) (fun z => absurd rfl z)
      (hsp _ hO (.inr ⟨_, vs.toArray, _, hk, rfl, rfl, rfl, by rw [List.size_toArray, hi.length]; exact hl, by simpa using vals_ints hi⟩))
  | none =>
    have hf : (fun b => if b = a then some (HO.frz { cls := .type "list", data := .seq vs.toArray } (.lst (ns.map V.int))) else none : Hp) a = some (.frz { cls := .type "list", data := .seq vs.toArray } (.lst (ns.map V.int))) := if_pos rfl
    have hn : ∀ b, b ≠ a → (fun b => if b = a then some (HO.frz { cls := .type "list", data := .seq vs.toArray } (.lst (ns.map V.int))) else none : Hp) b = none := fun b z => if_neg z
    revert hf hn
    generalize (fun b => if b = a then some (HO.frz { cls := .type "list", data := .seq vs.toArray } (.lst (ns.map V.int))) else none : Hp) = H
    intro hf hn
    have hO : Only H := fun b => by
      by_cases z : b = a
      · exact .inr ⟨_, _, by rw [z]; exact hf⟩
      · exact .inl (hn b z)
    refine law_at KX hns hb hbb hlim hg hobj hr F hbind hO (fun b u z => ?_) hn (fun _ => hk) (hsp _ hO (.inl (.inr ⟨_, hf⟩)))
    by_cases q : b = a
    · subst q
      rw [hf] at z
      cases z
      exact ⟨hobj, by rw [List.length_map]; exact hl, vs, _, vals_ints hi, hobj⟩
    · rw [hn b q] at z
      cases z
end
theorem walk_ofG {l : PySem.W.OpenLaw} {n k : Nat} {q : Program} {loose : List Str} {XP : (Str → Option Value) → Heap → Prop} {YP : World → Heap → Prop} {d : DefRec} {K : Params → PySem.W.Frag} {sp : PySem.W.Frag → Sp} {x : Str}
    (hn : l.most = some n) (hn2 : n ≤ sizeLine) (hdf : d.params.defaults = []) (hr : RoomG k callerA)
    (hY : ∀ (w : World) (h : Heap), YP w h → (K w.params).In h)
    (F : ∀ (w : World) (mg : Str → Option Value) (fa : Addr) (h : Heap), (K w.params).In h → h.Ns mainGlobals mg → mg d.name = some (.ref fa) →
      ∃ fd : FuncData, (∀ (s : Shared) (u : Value), BindsTo s fd ⟨[u], []⟩ [(x, u)]) ∧ ∀ base : Heap, (K w.params).In base → base.Ns mainGlobals mg → FnG l.prog w (K w.params) mg base CX0 k fa fd [x] (sp (K w.params)))
    (hsp : ∀ (K : PySem.W.Frag) (H : Hp) (a : Addr) (ns : List Int), ns.length ≤ n → Only H → SqL K H a (ns.map V.int) → sp K [.ref a] H (fun v _ => v = .bl true) fun _ _ _ => False) :
    PySem.W.WalkO q loose XP YP l.row.toRowW d [] (fun f vs => PySem.call f vs) := by
  refine Att.attach_call hn hdf fun w s₀ s₁ mg mb fa o pm cd doc a vs ns G Y ho hd hcd hmg hobj hints hlen hg => ?_
  obtain ⟨fd, hb, hF⟩ := F w mg fa _ (hY w _ Y) G.T.g hmg
  exact law_callG (hY w _ Y) G.T.g G.T.b G.T.builtins G.T.nolimit hg hobj hints (Nat.le_trans hlen hn2) hr hF hb fun H hO hS => hsp _ H a ns hlen hO hS
end Gd

/-! Steps of readings: what is new stands beside what was. -/
namespace Stp
open PySem PySem.Spec L2 Gd Fx
theorem same_upd {H H' : Hp} {p : Addr} {o : HO} (s : Same H H') (hp : H' p = none) : Same H (upd H' p o) := fun b u e => by
  rw [upd_ne (ne_of_none (s b u e) hp)]
  exact s b u e
theorem same1 {H : Hp} {p : Addr} {o : HO} (hp : H p = none) : Same H (upd H p o) := same_upd (Same.refl H) hp
theorem yes {σ : L2.St} {H : Hp} {A B : Hp → Prop} (h : A H) : tYes σ H (fun b H3 => if b = true then A H3 else B H3) := by
  show if true = true then A H else B H
  rw [if_pos rfl]
  exact h
theorem neSelf {x : V} {A B : Prop} (h : B) : if (!decide (x = x)) = true then A else B := by
  rw [decide_eq_true (rfl : x = x), if_neg (by decide)]
  exact h
section
variable {H : Hp} {Q : VK} {xs ys : List V}
theorem lst (hz : xs.length ≤ 1000000) (h : ∀ p H', H p = none → Same H H' → H' p = some (.lst xs) → Q (.ref p) H') : xs.length ≤ sizeLine ∧ ∀ p, H p = none → Q (.ref p) (upd H p (.lst xs)) :=
  ⟨Nat.le_trans hz (by decide), fun p hp => h p _ hp (same1 hp) upd_same⟩
theorem tup (hz : xs.length ≤ 1000000) (h : ∀ p H', H p = none → Same H H' → H' p = some (.tup xs) → Q (.ref p) H') : xs.length ≤ sizeLine ∧ ∀ p, H p = none → Q (.ref p) (upd H p (.tup xs)) :=
  ⟨Nat.le_trans hz (by decide), fun p hp => h p _ hp (same1 hp) upd_same⟩
theorem cat {l b : Addr} (hl : H l = some (.lst xs)) (hb : H b = some (.lst ys)) (hz : xs.length + ys.length ≤ 1000000) (h : ∀ p H', H p = none → Same H H' → H' p = some (.lst (xs ++ ys)) → Q (.ref p) H') : rCat (.ref l) (.ref b) H Q :=
  ⟨l, b, xs, ys, rfl, rfl, hl, hb, Nat.le_trans hz (by decide), fun p hp => h p _ hp (same1 hp) upd_same⟩
theorem rep {l : Addr} {k : Nat} (hl : H l = some (.lst xs)) (hz : xs.length * k ≤ 1000000) (hk : k ≤ 1000000) (h : ∀ p H', H p = none → Same H H' → H' p = some (.lst (List.replicate k xs).flatten) → Q (.ref p) H') : rRep (.ref l) (.int (k : Int)) H Q :=
  ⟨l, k, xs, rfl, rfl, hl, by omega, by omega, by simpa using Nat.le_trans hz (by decide), fun p hp => h p _ hp (same1 hp) (by rw [upd_same]; simp)⟩
end
/-! ### an exception made -/
section
variable {K : PySem.W.Frag} {C D fI : Addr} {f g : Str} {y z : V} {H : Hp} {Q : VK}
theorem made_same {H H' : Hp} {a C d : Addr} {fs : List (Str × V)} (hn : H a = none) (M : MadeX (upd H a (exo a C none)) H' a C d fs) : Same H H' ∧ H' a = some (exo a C (some d)) ∧ H' d = some (exd d fs) := by
  obtain ⟨h1, h2, h3, h4, h5⟩ := M
  refine ⟨fun b o e => ?_, h3, h4⟩
  have na : b ≠ a := ne_of_none e hn
  have nd : b ≠ d := ne_of_none e (by rw [upd_ne h2] at h1; exact h1)
  rw [h5 b na nd, upd_ne na]
  exact e
/-- what is told of an exception that is held: its class, its fields -/
def ExV (H : Hp) (a C : Addr) (fs : List (Str × V)) : Prop := ∃ d, H a = some (exo a C (some d)) ∧ H d = some (exd d fs)
theorem ExV.same {H H' : Hp} {a C : Addr} {fs : List (Str × V)} (h : ExV H a C fs) (s : Same H H') : ExV H' a C fs := by
  obtain ⟨d, h1, h2⟩ := h
  exact ⟨d, s _ _ h1, s _ _ h2⟩
theorem ExV.put {H : Hp} {a C p : Addr} {fs : List (Str × V)} {xs ys : List V} (h : ExV H a C fs) (hp : H p = some (.lst xs)) : ExV (upd H p (.lst ys)) a C fs := by
  obtain ⟨d, h1, h2⟩ := h
  refine ⟨d, ?_, ?_⟩
  · rw [upd_ne fun e => by rw [e, hp] at h1; cases h1]
    exact h1
  · rw [upd_ne fun e => by rw [e, hp] at h2; cases h2]
    exact h2
theorem ExV.at {H : Hp} {a C : Addr} {fs : List (Str × V)} (h : ExV H a C fs) : ExAtC H a C := by
  obtain ⟨d, h1, h2⟩ := h
  exact .inr ⟨d, fs, h1, h2⟩
theorem mk1 (TC : XC K C D fI) (n1 : PySem.W.findIn K (.ref C) f = some none) (h : ∀ a H', Same H H' → ExV H' a C [(f, y)] → Q (.ref a) H') :
    ∀ a, H a = none → spInit1 K D fI f [.ref a, y] (upd H a (exo a C none)) (fun v H3 => v = .non ∧ Q (.ref a) H3) (fun _ _ _ => False) := fun a na =>
  ⟨a, C, y, rfl, TC, n1, upd_same, fun d H' M => by
    obtain ⟨s, h3, h4⟩ := made_same na M
    exact ⟨rfl, h a H' s ⟨d, h3, h4⟩⟩⟩
theorem mk2 (TC : XC K C D fI) (n1 : PySem.W.findIn K (.ref C) f = some none) (n2 : PySem.W.findIn K (.ref C) g = some none) (h : ∀ a H', Same H H' → ExV H' a C [(g, z), (f, y)] → Q (.ref a) H') :
    ∀ a, H a = none → spInit2 K D fI f g [.ref a, y, z] (upd H a (exo a C none)) (fun v H3 => v = .non ∧ Q (.ref a) H3) (fun _ _ _ => False) := fun a na =>
  ⟨a, C, y, z, rfl, TC, n1, n2, upd_same, fun d H' M => by
    obtain ⟨s, h3, h4⟩ := made_same na M
    exact ⟨rfl, h a H' s ⟨d, h3, h4⟩⟩⟩
theorem mk0 (h : ∀ a H', Same H H' → H' a = some (exo a C none) → Q (.ref a) H') : ∀ a, H a = none → Q (.ref a) (upd H a (exo a C none)) := fun a na => h a _ (same1 na) upd_same
end
/-! ### data -/
mutual
theorem dp_same {K : PySem.W.Frag} {H H' : Hp} (s : Same H H') : ∀ (d : PyData) (v : V), Dp K H v d → Dp K H' v d
  | .none, _, h => by cases h; exact .non
  | .bool _, _, h => by cases h; exact .bl _
  | .int _, _, h => by cases h; exact .int _
  | .str _, _, h => by cases h; exact .str _
  | .list ds, _, h => by
    cases h with
    | lst hs ha => exact .lst (s.seq hs) (dp_sameAll s ds _ ha)
  | .tuple ds, _, h => by
    cases h with
    | tup hs ha => exact .tup (seqT s hs) (dp_sameAll s ds _ ha)
  | .dict _, _, h => by cases h
theorem dp_sameAll {K : PySem.W.Frag} {H H' : Hp} (s : Same H H') : ∀ (ds : List PyData) (vs : List V), DpAll K H vs ds → DpAll K H' vs ds
  | [], _, h => by cases h; exact .nil
  | d :: ds, _, h => by
    cases h with
    | cons h1 h2 => exact .cons (dp_same s d _ h1) (dp_sameAll s ds _ h2)
theorem seqT {K : PySem.W.Frag} {H H' : Hp} {a : Addr} {xs : List V} (e : Same H H') (h : SqT K H a xs) : SqT K H' a xs := by
  rcases h with (h | ⟨o, h⟩) | h
  · exact .inl (.inl (e _ _ h))
  · exact .inl (.inr ⟨o, e _ _ h⟩)
  · exact .inr h
end
/-- data without dicts, or the dict {"a": 1} -/
def OneD (K : PySem.W.Frag) (H : Hp) (v : V) (d : PyData) : Prop := (Dp K H v d ∧ d.hasDict = false) ∨ ∃ a, v = .ref a ∧ H a = some (.dK [(.inr "a", .int 1)]) ∧ d = .dict [(.str "a", .int 1)]
theorem OneD.same {K : PySem.W.Frag} {H H' : Hp} {v : V} {d : PyData} (h : OneD K H v d) (s : Same H H') : OneD K H' v d := by
  rcases h with ⟨h1, h2⟩ | ⟨a, h1, h2, h3⟩
  · exact .inl ⟨dp_same s d v h1, h2⟩
  · exact .inr ⟨a, h1, s _ _ h2, h3⟩
end Stp

/-! Rules whose readings leave the new heap open: it is told of by what stands in it. -/
namespace Stp
open PySem PySem.Spec PyProof.Rows L2 Gd Fx
theorem pe_to {X : Cx} {e : Expr} {t t' : TE} (h : PE X e t) (k : ∀ σ H Q, t' σ H Q → t σ H Q) : PE X e t' := ⟨fun pins s σ H Q I q => h.run pins s σ H Q I (k σ H Q q)⟩
theorem op_to {X : Cx} {f : Value → Value → Sem Value} {r r' : R2} (h : OpR X f r) (k : ∀ x y H Q, r' x y H Q → r x y H Q) : OpR X f r' := fun pins s σ H x y v u Q I rx ry q => h pins s σ H x y v u Q I rx ry (k x y H Q q)
def tLstN (t : TA) : TE := fun σ H Q => t σ H fun xs H1 => xs.length ≤ 1000000 ∧ ∀ p H', H1 p = none → Same H1 H' → H' p = some (.lst xs) → Q (.ref p) H'
def tTupN (t : TA) : TE := fun σ H Q => t σ H fun xs H1 => xs.length ≤ 1000000 ∧ ∀ p H', H1 p = none → Same H1 H' → H' p = some (.tup xs) → Q (.ref p) H'
section
variable {X : Cx} {es : List Expr} {t : TA} {pos : Pos}
theorem pe_lstN (h : PA X es t) : PE X (.List es pos) (tLstN t) := by
  refine ⟨fun pins s σ H Q I hq => ?_⟩
  refine wpAny_List_spliced (thn (h.run pos pins s σ H _ I hq) fun us s1 ⟨xs, H1, I1, r, z, q⟩ => ⟨by rw [← r.length]; exact Nat.le_trans z (by decide), ?_⟩)
  have hf : H1 s1.heap.objs.size = none := I1.hok.fresh (Nat.le_refl _)
  refine ⟨.ref s1.heap.objs.size, upd H1 s1.heap.objs.size (.lst xs), I1.laid (t' := s1.toks) (fun b u e => Heap.get?_push_of_some _ e) (Nat.le_refl _) ?_, rfl, q _ _ hf (same1 hf) upd_same⟩
  exact ⟨Nat.le_trans z (by decide), us, 0, r, Heap.get?_push_size _ rfl⟩
theorem pe_tupN {x1} (h : PA X es t) : PE X (.Tuple es x1 pos) (tTupN t) := by
  refine ⟨fun pins s σ H Q I hq => ?_⟩
  refine wpAny_Tuple_spliced (thn (h.run pos pins s σ H _ I hq) fun us s1 ⟨xs, H1, I1, r, z, q⟩ => ⟨by rw [← r.length]; exact Nat.le_trans z (by decide), ?_⟩)
  have hf : H1 s1.heap.objs.size = none := I1.hok.fresh (Nat.le_refl _)
  refine ⟨.ref s1.heap.objs.size, upd H1 s1.heap.objs.size (.tup xs), I1.laid (t' := s1.toks) (fun b u e => Heap.get?_push_of_some _ e) (Nat.le_refl _) ?_, rfl, q _ _ hf (same1 hf) upd_same⟩
  exact ⟨Nat.le_trans z (by decide), us, r, ⟨_, Heap.get?_push_size _ rfl, rfl, _, rfl⟩⟩
def tDict1 (k : Key) (v : V) : TE := fun σ H Q => ∀ p H', H p = none → Same H H' → H' p = some (.dK [(k, v)]) → Q (.ref p) H'
theorem dict1 {e : Expr} {tk tv : TE} {k : Key} {v : V} (h : PE X e (tDisp [(tk, tv)])) (hp : ∀ σ H R, R [(kV k, v)] H → tPairs [(tk, tv)] σ H R) : PE X e (tDict1 k v) := pe_to h fun σ H Q q p np => hp σ _ _ ⟨upd_same, [(k, v)], rfl, by simp, by
  rw [upd_upd]
  exact q p _ np (same1 np) upd_same⟩
def rCatN : R2 := fun x y H Q => ∃ l b xs ys, x = .ref l ∧ y = .ref b ∧ H l = some (.lst xs) ∧ H b = some (.lst ys) ∧ xs.length + ys.length ≤ 1000000 ∧ ∀ p H', H p = none → Same H H' → H' p = some (.lst (xs ++ ys)) → Q (.ref p) H'
theorem op_catN : OpR X (binaryOp .Add) rCatN := op_to op_cat fun x y H Q ⟨l, b, xs, ys, e1, e2, h1, h2, z, q⟩ => ⟨l, b, xs, ys, e1, e2, h1, h2, Nat.le_trans z (by decide), fun p hp => q p _ hp (same1 hp) upd_same⟩
/-- [x] * k -/
def rRepN : R2 := fun x y H Q => ∃ (l : Addr) (k : Nat) (z : V), x = .ref l ∧ y = .int (k : Int) ∧ H l = some (.lst [z]) ∧ k ≤ 1000000 ∧ ∀ p H', H p = none → Same H H' → H' p = some (.lst (List.replicate k z)) → Q (.ref p) H'
theorem flat1 {α : Type} (z : α) : ∀ k : Nat, (List.replicate k [z]).flatten = List.replicate k z
  | 0 => rfl
  | k + 1 => by rw [List.replicate_succ, List.replicate_succ, List.flatten_cons, flat1 z k]; rfl
theorem op_repN : OpR X (binaryOp .Mult) rRepN := op_to op_rep fun x y H Q ⟨l, k, z, e1, e2, h1, hk, q⟩ => ⟨l, (k : Int), [z], e1, e2, h1, by omega, by omega, by
  rw [Int.toNat_natCast, List.length_singleton, Nat.one_mul]
  exact Nat.le_trans hk (by decide), fun p hp => q p _ hp (same1 hp) (by rw [upd_same, Int.toNat_natCast, flat1])⟩
end
/-! ### an exception as a value -/
section
variable {X : Cx} {CX : CXT} {k n : Nat} {fI C D : Addr} {fd : FuncData} {ps ks : List Str} {x f g : Str} {p pos : Pos} {e : Expr} {es : List Expr} {kws : List Keyword} {t tk : TA} {gg : List Value → List Value → List Value} {gV : List V → List V → List V}
/-- C(y), the field f = y -/
def tEx1 (C : Addr) (f : Str) (t : TA) : TE := fun σ H Q => t σ H fun vs H1 => ∃ y : V, vs = [y] ∧ ∀ a H', Same H1 H' → ExV H' a C [(f, y)] → Q (.ref a) H'
/-- C(y, z), the fields f = y, g = z -/
def tEx2 (C : Addr) (f g : Str) (t : TA) : TE := fun σ H Q => t σ H fun vs H1 => ∃ y z : V, vs = [y, z] ∧ ∀ a H', Same H1 H' → ExV H' a C [(g, z), (f, y)] → Q (.ref a) H'
/-- C(g = z, f = y), written so -/
def tEx2R (C : Addr) (f g : Str) (t : TA) : TE := fun σ H Q => t σ H fun vs H1 => ∃ y z : V, vs = [z, y] ∧ ∀ a H', Same H1 H' → ExV H' a C [(g, z), (f, y)] → Q (.ref a) H'
theorem pe_ex1 (T : OexC X.K C) (iC : PySem.W.findIn X.K (.ref C) "__init__" = some (some (.ref fI))) (tI : PySem.W.typeIn X.K (.ref fI) = some (.type "function"))
    (F1 : FnOk X.prog X.w X.K X.mg X.base CX k fI fd ps (spInit1 X.K D fI f)) (XT : XC X.K C D fI) (n1 : PySem.W.findIn X.K (.ref C) f = some none) (hr : Room (k + 1) X.A) (hg : Gl X x) (hm : X.mg x = some (.ref C))
    (hb : KBn X.K fd ps (1 + 1) ([] : List Str) (fun us _ => us) (fun vs _ => vs)) (hx : Passes CX X (fun _ _ _ => False)) (ha : PA X (e :: es) t)
    (hdb : (x == ("__debug__" : Str)) = false := by decide) (he : starEach (e :: es) X.env = (false, eval e X.env) :: starEach es X.env := by rfl) (hpl : (backTo pos (starEach es X.env)).any (·.1) = false := by rfl) :
    PE X (.Call (.Name x p) (e :: es) [] pos) (tEx1 C f t) := by
  refine ⟨fun pins s σ H Q I h => ?_⟩
  refine wpAny_Call_Name_kw (ld_glob I hg hm ?_ hdb)
  refine PySem.W.callWith_K (h₀ := X.base) I.ok.mod.kin T.kC (thn (ha.run pos pins s σ H _ I h) fun us s1 ⟨vs, H1, I1, r, y, ey, q⟩ => ⟨I1.kIn, ?_⟩) he hpl
  subst ey
  show wpAny _ _ (call (.ref C) us) _ _ _
  exact run_exv (ws := []) (ks := []) T iC tI F1 hr hb hx I1 r .nil rfl rfl (by decide) (mk1 XT n1 q)
theorem pe_ex2 (T : OexC X.K C) (iC : PySem.W.findIn X.K (.ref C) "__init__" = some (some (.ref fI))) (tI : PySem.W.typeIn X.K (.ref fI) = some (.type "function"))
    (F1 : FnOk X.prog X.w X.K X.mg X.base CX k fI fd ps (spInit2 X.K D fI f g)) (XT : XC X.K C D fI) (n1 : PySem.W.findIn X.K (.ref C) f = some none) (n2 : PySem.W.findIn X.K (.ref C) g = some none) (hr : Room (k + 1) X.A) (hg : Gl X x) (hm : X.mg x = some (.ref C))
    (hb : KBn X.K fd ps (2 + 1) ([] : List Str) (fun us _ => us) (fun vs _ => vs)) (hx : Passes CX X (fun _ _ _ => False)) (ha : PA X (e :: es) t)
    (hdb : (x == ("__debug__" : Str)) = false := by decide) (he : starEach (e :: es) X.env = (false, eval e X.env) :: starEach es X.env := by rfl) (hpl : (backTo pos (starEach es X.env)).any (·.1) = false := by rfl) :
    PE X (.Call (.Name x p) (e :: es) [] pos) (tEx2 C f g t) := by
  refine ⟨fun pins s σ H Q I h => ?_⟩
  refine wpAny_Call_Name_kw (ld_glob I hg hm ?_ hdb)
  refine PySem.W.callWith_K (h₀ := X.base) I.ok.mod.kin T.kC (thn (ha.run pos pins s σ H _ I h) fun us s1 ⟨vs, H1, I1, r, y, z, ey, q⟩ => ⟨I1.kIn, ?_⟩) he hpl
  subst ey
  show wpAny _ _ (call (.ref C) us) _ _ _
  exact run_exv (ws := []) (ks := []) T iC tI F1 hr hb hx I1 r .nil rfl rfl (by decide) (mk2 XT n1 n2 q)
theorem pe_ex1K (T : OexC X.K C) (iC : PySem.W.findIn X.K (.ref C) "__init__" = some (some (.ref fI))) (tI : PySem.W.typeIn X.K (.ref fI) = some (.type "function"))
    (F1 : FnOk X.prog X.w X.K X.mg X.base CX k fI fd ps (spInit1 X.K D fI f)) (XT : XC X.K C D fI) (n1 : PySem.W.findIn X.K (.ref C) f = some none) (hr : Room (k + 1) X.A) (hg : Gl X x) (hm : X.mg x = some (.ref C))
    (hb : KBn X.K fd ps 1 [f] (fun us ws => us ++ ws) (fun vs zs => vs ++ zs)) (hx : Passes CX X (fun _ _ _ => False)) (hkw : PK X kws tk)
    (hall : (backToKw pos (keywordEach kws X.env)).all (·.1.isSome) = true := by rfl) (hks : (backToKw pos (keywordEach kws X.env)).filterMap (·.1) = [f] := by rfl) (hdb : (x == ("__debug__" : Str)) = false := by decide)
    (hpl : ((backTo pos (starEach [] X.env)).any (·.1) || (backToKw pos (keywordEach kws X.env)).any (·.1.isNone)) = false := by rfl) :
    PE X (.Call (.Name x p) [] kws pos) (tEx1 C f tk) := by
  refine ⟨fun pins s σ H Q I h => ?_⟩
  refine wpAny_Call_Name_kw (ld_glob I hg hm ?_ hdb)
  refine PySem.W.callWith_KW0 (h₀ := X.base) I.ok.mod.kin T.kC hall ?_ hpl
  refine thn (hkw.run pos pins s σ H _ I h) fun ws s2 ⟨zs, H2, I2, rz, y, ey, q⟩ => ⟨I2.kIn, ?_⟩
  subst ey
  rw [hks]
  exact run_exv (us := []) (vs := []) (n := 0) T iC tI F1 hr hb hx I2 .nil rz rfl rfl (by decide) (mk1 XT n1 q)
theorem pe_ex2R (T : OexC X.K C) (iC : PySem.W.findIn X.K (.ref C) "__init__" = some (some (.ref fI))) (tI : PySem.W.typeIn X.K (.ref fI) = some (.type "function"))
    (F1 : FnOk X.prog X.w X.K X.mg X.base CX k fI fd ps (spInit2 X.K D fI f g)) (XT : XC X.K C D fI) (n1 : PySem.W.findIn X.K (.ref C) f = some none) (n2 : PySem.W.findIn X.K (.ref C) g = some none) (hr : Room (k + 1) X.A) (hg : Gl X x) (hm : X.mg x = some (.ref C))
    (hb : KBn X.K fd ps 1 [g, f] (fun us ws => us ++ ws.reverse) (fun vs zs => vs ++ zs.reverse)) (hx : Passes CX X (fun _ _ _ => False)) (hkw : PK X kws tk)
    (hall : (backToKw pos (keywordEach kws X.env)).all (·.1.isSome) = true := by rfl) (hks : (backToKw pos (keywordEach kws X.env)).filterMap (·.1) = [g, f] := by rfl) (hdb : (x == ("__debug__" : Str)) = false := by decide)
    (hpl : ((backTo pos (starEach [] X.env)).any (·.1) || (backToKw pos (keywordEach kws X.env)).any (·.1.isNone)) = false := by rfl) :
    PE X (.Call (.Name x p) [] kws pos) (tEx2R C f g tk) := by
  refine ⟨fun pins s σ H Q I h => ?_⟩
  refine wpAny_Call_Name_kw (ld_glob I hg hm ?_ hdb)
  refine PySem.W.callWith_KW0 (h₀ := X.base) I.ok.mod.kin T.kC hall ?_ hpl
  refine thn (hkw.run pos pins s σ H _ I h) fun ws s2 ⟨zs, H2, I2, rz, y, z, ey, q⟩ => ⟨I2.kIn, ?_⟩
  subst ey
  rw [hks]
  exact run_exv (us := []) (vs := []) (n := 0) T iC tI F1 hr hb hx I2 .nil rz rfl rfl (by decide) (mk2 XT n1 n2 q)
def tEx0 (C : Addr) : TE := fun _ H Q => ∀ a H', Same H H' → H' a = some (exo a C none) → Q (.ref a) H'
theorem pe_ex0 (q : PySem.W.excIn X.K C [.type "ValueError", .type "Exception", .type "BaseException", .type "object"] "ValueError.__new__" = true) (kC : PySem.W.keepIn X.K (.ref C) = true) (hg : Gl X x) (gC : X.mg x = some (.ref C)) (hdb : (x == ("__debug__" : Str)) = false := by decide) :
    PE X (.Call (.Name x p) [] [] pos) (tEx0 C) := pe_to (pe_exc0 q kC hg gC hdb) fun σ H Q q a na => q a _ (same1 na) upd_same
end
/-! ### a comprehension: one new list, what was there stays -/
section
variable {J : It} {n : Nat} {G : Hp → Prop} {Y : Nat → Hp → V → Hp → Prop}
theorem lc_new (w : Walk J n G Y) {g : TG} {tt : TT} {te : TE} {vs : List Nat} {σ : L2.St} {H1 : Hp} {Qd : Hp → Prop} {D : Addr} (hD : H1 D = none) (zs : List V) (hn : zs.length = n) (hz : n ≤ 1000000) (hG : ∀ H, Same H1 H → G H) (hY : ∀ i H x H', Y i H x H' → Same H H')
    (hs : ∀ i x z H H' (Qn : VK) (R : Hp → Prop), i < n → zs[i]? = some z → Same H1 H → Y i H x H' → (∀ H3, Same H' H3 → Qn z H3) → g x (wipe σ vs) H' fun σ2 H2 => wipe σ2 vs = wipe σ vs ∧ tt σ2 H2 fun b H3 => if b = true then te σ2 H3 Qn else R H3)
    (k : ∀ H', Same H1 H' → H' D = some (.lst zs) → Qd H') :
    ∃ W : Nat → Nat → Hp → Prop, (∃ m, W 0 m (upd H1 D (.lst []))) ∧ ∀ i m H, W i m H →
      (J.stop i H ∧ Qd H) ∨ (J.go i H ∧ ∃ Nx : Hp → Prop, (∀ H', Nx H' → ∃ m', m' < m ∧ W (i + 1) m' H') ∧ ∀ x H', J.yld i H x H' → g x (wipe σ vs) H' fun σ2 H2 => wipe σ2 vs = wipe σ vs ∧ tt σ2 H2 fun b H3 =>
        if b = true then te σ2 H3 fun y H4 => ∃ acc, H4 D = some (.lst acc) ∧ acc.length < sizeLine ∧ Nx (upd H4 D (.lst (acc ++ [y]))) else Nx H3) := by
  have up : ∀ (H : Hp) (o : HO), Same H1 H → Same H1 (upd H D o) := fun H o s b u e => by
    rw [upd_ne (ne_of_none e hD)]
    exact s b u e
  refine lc_it w (fun i H => Same H1 H ∧ H D = some (.lst (zs.take i))) ⟨up _ _ (Same.refl H1), by rw [upd_same, List.take_zero]⟩ (fun i H _ h => hG H h.1) (fun i x H H' hi h y => ?_) (fun H h => k H h.1 (by rw [h.2, List.take_of_length_le (Nat.le_of_eq hn)]))
  have hiz : i < zs.length := by omega
  have e1 : zs[i]? = some (zs[i]'hiz) := List.getElem?_eq_getElem hiz
  refine hs i x (zs[i]'hiz) H H' _ _ hi e1 h.1 y fun H3 s3 => ?_
  have hy := hY i H x H' y
  refine ⟨_, s3 _ _ (hy _ _ h.2), ?_, up _ _ (h.1.trans (hy.trans s3)), ?_⟩
  · rw [List.length_take]
    exact Nat.lt_of_le_of_lt (Nat.le_trans (Nat.min_le_left _ _) (Nat.le_of_lt hi)) (Nat.lt_of_le_of_lt hz (by decide))
  · rw [upd_same, List.take_succ, e1]
    rfl
end
end Stp

/-! repr of a list whose items are data, each read for itself. -/
namespace Rp
open PySem PySem.Spec L2 Gd
/-- v stands for the data d -/
def Rd0 (h : Heap) (u : Value) (d : PyData) : Prop := ∃ as, Reads h u d as ∧ (d.hasDict = true → sysModules ∉ as)
inductive RdAll (h : Heap) : List Value → List PyData → Prop
  | nil : RdAll h [] []
  | cons {u : Value} {us : List Value} {d : PyData} {ds : List PyData} : Rd0 h u d → RdAll h us ds → RdAll h (u :: us) (d :: ds)
theorem RdAll.reads {h : Heap} : ∀ {us : List Value} {ds : List PyData}, RdAll h us ds → ∃ as, ReadsAll h us ds as
  | _, _, .nil => ⟨_, .nil⟩
  | _, _, .cons ⟨as, r, _⟩ t => by
    obtain ⟨bs, q⟩ := t.reads
    exact ⟨_, .cons r q⟩
theorem RdAll.shows {prog : Program} {w : World} {h : Heap} : ∀ {us : List Value} {ds : List PyData}, RdAll h us ds → PyData.showableAll ds = true → (∀ t ∈ PyData.shownAll ds, t.length ≤ sizeLine) →
    ∃ bs, ReadAtMost h (PyData.depthAll ds) bs ∧ ReprAllK prog w bs h (PyData.depthAll ds) us (PyData.shownAll ds)
  | _, _, .nil, _, _ => ⟨[], (fun _ h => nomatch h), by simp only [PyData.shownAll]; exact .nil⟩
  | _, _, .cons (d := d) (ds := ds) ⟨as, r, hm⟩ t, hs, hz => by
    have hs' : d.showable = true ∧ PyData.showableAll ds = true := by simpa [PyData.showableAll] using hs
    obtain ⟨b1, m1, k1⟩ := ReprK.of_reads (prog := prog) (w := w) r hs'.1 hm (hz _ (by simp only [PyData.shownAll]; exact List.mem_cons_self))
    obtain ⟨b2, m2, k2⟩ := t.shows (prog := prog) (w := w) hs'.2 fun x hx => hz x (by simp only [PyData.shownAll]; exact List.mem_cons_of_mem _ hx)
    have l1 : d.depth ≤ PyData.depthAll (d :: ds) := by simp only [PyData.depthAll]; exact Nat.le_max_left _ _
    have l2 : PyData.depthAll ds ≤ PyData.depthAll (d :: ds) := by simp only [PyData.depthAll]; exact Nat.le_max_right _ _
    refine ⟨b1 ++ b2, fun b hb => ?_, ?_⟩
    · rcases List.mem_append.mp hb with hb | hb
      · obtain ⟨e, cs, q, z⟩ := m1 b hb
        exact ⟨e, cs, q, Nat.le_trans z l1⟩
      · obtain ⟨e, cs, q, z⟩ := m2 b hb
        exact ⟨e, cs, q, Nat.le_trans z l2⟩
    · simp only [PyData.shownAll]
      exact .cons ((k1.more fun b hb => List.mem_append_left _ hb).level_le l1) (k2.more_le (fun b hb => List.mem_append_right _ hb) l2)
theorem repr_list {prog : Program} {w : World} {A : Around} {E : Value → Shared → Prop} {s : Shared} {Q : Value → Shared → Prop} {a : Addr} {n : Nat} {us : List Value} {ds : List PyData} (ho : s.heap.get? a = some { cls := .type "list", data := .seq us.toArray n }) (r : RdAll s.heap us ds)
    (hs : PyData.showableAll ds = true) (hg : A.guards = some []) (hu : A.units + (PyData.depthAll ds + 2) < cLine) (hsz : (PyData.list ds).shown.length ≤ sizeLine)
    (hQ : ∀ h' u tk, (∀ b o, s.heap.get? b = some o → h'.get? b = some o) → Q (.str (PyData.list ds).shown u) { s with heap := h', toks := tk }) : wpAny (model prog w) A (call (.builtin "repr") [.ref a]) Q E s := by
  have hz' : (listText (PyData.shownAll ds)).length ≤ sizeLine := by simpa only [PyData.shown] using hsz
  obtain ⟨as, hr⟩ := r.reads
  obtain ⟨bs, hb, hk⟩ := r.shows (prog := prog) (w := w) hs (fun t ht => Nat.le_trans (listText_mem_le ht) hz')
  have hna : a ∉ bs := not_mem_of_deeper (.list ho rfl rfl hr) (by simp only [PyData.depth]; omega) hb
  refine call_repr_slot (by omega) ⟨_, ho, rfl⟩ F.slot_list_repr.toG ?_
  simp only [PyData.shown] at hQ
  cases us with
  | nil =>
    cases r
    simp only [PyData.shownAll, listText_nil] at hQ
    exact call_list_repr_empty ⟨_, ho, rfl⟩ ho rfl ⟨_, _, rfl, hQ s.heap _ _ fun _ _ e => e⟩
  | cons x l =>
    exact call_list_reprK ho rfl rfl hna (by simpa using hk.length_eq) (fun i y e => hk.item i y (by simpa using e)) hg (fun b _ => Clear.nil b) (by show A.units + 1 + (PyData.depthAll ds + 1) < cLine; omega) (fun _ _ e => e) (fun h' u tk hk => ⟨_, _, rfl, hQ h' u tk hk⟩) hz'
end Rp
namespace Rp
open PySem PySem.Spec L2 Gd Stp
inductive OneAll (K : PySem.W.Frag) (H : Hp) : List V → List PyData → Prop
  | nil : OneAll K H [] []
  | cons {v : V} {vs : List V} {d : PyData} {ds : List PyData} : OneD K H v d → OneAll K H vs ds → OneAll K H (v :: vs) (d :: ds)
theorem OneAll.rep {K : PySem.W.Frag} {H : Hp} {v : V} {d : PyData} (h : OneD K H v d) : ∀ n : Nat, OneAll K H (List.replicate n v) (List.replicate n d)
  | 0 => .nil
  | n + 1 => .cons h (OneAll.rep h n)
theorem oneRd {X : Cx} {pins : List (Addr × Obj)} {σ : L2.St} {H : Hp} {s : Shared} {v : V} {d : PyData} {u : Value} (I : Inv X pins σ H s) (h : OneD X.K H v d) (r : RelV v u) : Rd0 s.heap u d := by
  rcases h with ⟨h1, h2⟩ | ⟨a, rfl, h2, rfl⟩
  · obtain ⟨as, q⟩ := Dp.reads I d v u h1 r
    exact ⟨as, q, fun z => by rw [h2] at z; cases z⟩
  · cases r
    obtain ⟨_, hm, vs, kv, o, es, ep, ho, hx, hd, hk, hp, hnd⟩ := dk_of I.hok h2
    cases kv with
    | cons q1 q2 =>
      cases q2
      rename_i p0
      obtain ⟨k0, v0⟩ := p0
      obtain ⟨rfl, t1, rfl⟩ := q1
      obtain ⟨es⟩ := es
      cases hp with
      | cons e1 e2 e3 =>
        cases e3
        rename_i e0
        obtain ⟨hh, ke, va⟩ := e0
        have e1' : keyIs (.inr "a") ke = true := e1
        rcases keyIs_shape e1' with ⟨i, t, z, _⟩ | ⟨x, t, z, rfl⟩
        · cases z
        · cases z
          cases e2
          refine ⟨_, .dict ho hx.1 hd (.cons (.str _ _) .nil) (.cons (.int _ _) .nil), fun _ => ?_⟩
          have : a ≠ sysModules := beq_eq_false_iff_ne.mp hm
          simpa using this.symm
theorem OneAll.rd {X : Cx} {pins : List (Addr × Obj)} {σ : L2.St} {H : Hp} {s : Shared} (I : Inv X pins σ H s) : ∀ {ys : List V} {ds : List PyData} {us : List Value}, OneAll X.K H ys ds → Vals ys us → RdAll s.heap us ds
  | _, _, _, .nil, r => by cases r; exact .nil
  | _, _, _, .cons h t, r => by
    cases r with
    | cons r1 r2 => exact .cons (oneRd I h r1) (t.rd I r2)
def okD (ds : List PyData) : Bool := PyData.showableAll ds && decide (PyData.depthAll ds ≤ 60) && decide ((PyData.list ds).shown.length ≤ 16777216)
def rReprL (K : PySem.W.Frag) : List V → Hp → VK → Prop := fun xs H Q => ∃ (a : Addr) (ys : List V) (ds : List PyData), xs = [.ref a] ∧ H a = some (.lst ys) ∧ OneAll K H ys ds ∧ okD ds = true ∧ Q (.str (PyData.list ds).shown) H
theorem call_reprL {X : Cx} (hg : X.A.guards = some []) (hu : X.A.units + 64 < cLine) : CallR X (.builtin "repr") (rReprL X.K) := by
  intro pins s σ H xs us Q I r h
  obtain ⟨a, ys, ds, rfl, ha, hd, ok, q⟩ := h
  unfold okD at ok
  simp only [Bool.and_eq_true, decide_eq_true_eq] at ok
  obtain ⟨⟨h1, h2⟩, h3⟩ := ok
  cases r with
  | cons rx rr =>
    cases rr
    cases rx
    obtain ⟨_, its, n, rv, ho⟩ := I.hok a _ ha
    exact repr_list ho (hd.rd I rv) h1 hg (by omega) (by rw [sizeLine_eq]; exact h3) fun h' u tk hk => ⟨.str _, H, I.kept (h' := h') (t' := tk) hk, ⟨_, rfl⟩, q⟩
end Rp
namespace Rp
open PySem PySem.Spec L2 Fx
/-- the same with the written part named: for a comprehension's block -/
theorem pe_exatK {X : Cx} (K : PySem.W.Frag) {e : Expr} {f : Str} {te : TE} {pos : Pos} (he : PE X e te) (hK : X.K = K := by rfl) (hb : attributeBase e f X.env (eval e X.env) = eval e X.env := by rfl) : PE X (.Attribute e f pos) (tExAt K te f) := by
  subst hK
  exact pe_exat he hb
theorem call_isXK {X : Cx} (K : PySem.W.Frag) (hK : X.K = K := by rfl) : CallR X (.builtin "isinstance") (rIsX K) := by
  subst hK
  exact call_isX
end Rp

/-! tuple * 0 and tuple * 1. -/
namespace L2
open PySem PySem.Spec PyProof.Rows
theorem tuple_mul1 (l : Addr) (items : Array Value) (n : Nat) (dd : Option Addr) (sl : Array (Option Value)) (u : Tok) :
    Meets (Builtin.«tuple.__mul__» ⟨[.ref l, .int 1 u], []⟩) (fun _ R s => s.heap.get? l = some { cls := .type "tuple", dict := dd, data := .seq items n, slots := sl } ∧ R (.ok (.ret (Value.ref l))) s) :=
  .of_wp fun prog w A R s h => by
    obtain ⟨hp, g, d, tk, os⟩ := s
    obtain ⟨hl, h⟩ := h
    have f1 := AutoSeq1.idx_int
    wp_walk using wpAny_loadPart' hl
    repeat (first
      | (refine wpAny_ite_false (decide_eq_false (by decide)) ?_; wp_walk using wpAny_loadPart' hl)
      | (refine wpAny_ite_true (decide_eq_true (by simp)) ?_; wp_walk using wpAny_loadPart' hl))
    exact ⟨_, rfl, h⟩
theorem tuple_mul0 (l : Addr) (items : Array Value) (n : Nat) (dd : Option Addr) (sl : Array (Option Value)) (u : Tok) (he : items.isEmpty = false) :
    Meets (Builtin.«tuple.__mul__» ⟨[.ref l, .int 0 u], []⟩) (fun _ R s => s.heap.get? l = some { cls := .type "tuple", dict := dd, data := .seq items n, slots := sl } ∧
      R (.ok (.ret (Value.ref s.heap.objs.size))) { s with heap := s.heap.push { cls := Value.type "tuple", data := Data.seq #[] }, toks := s.toks }) :=
  .of_wp fun prog w A R s h => by
    obtain ⟨hp, g, d, tk, os⟩ := s
    obtain ⟨hl, h⟩ := h
    have f1 := AutoSeq1.idx_int
    wp_walk using wpAny_loadPart' hl
    repeat (first
      | (refine wpAny_ite_false (decide_eq_false (by rw [he]; decide)) ?_; wp_walk using wpAny_loadPart' hl)
      | (refine wpAny_ite_false (decide_eq_false (by decide)) ?_; wp_walk using wpAny_loadPart' hl)
      | (refine wpAny_ite_true (decide_eq_true (by simp)) ?_; wp_walk using wpAny_loadPart' hl))
    exact ⟨_, rfl, h⟩
def rTup1 (K : PySem.W.Frag) : R2 := fun x y H Q => ∃ l xs, x = .ref l ∧ y = .int 1 ∧ SqT K H l xs ∧ Q (.ref l) H
def rTup0 (K : PySem.W.Frag) : R2 := fun x y H Q => ∃ l xs, x = .ref l ∧ y = .int 0 ∧ SqT K H l xs ∧ xs ≠ [] ∧ ∀ p, H p = none → Q (.ref p) (upd H p (.tup []))
section
variable {X : Cx}
theorem op_tup1 : OpR X (binaryOp .Mult) (rTup1 X.K) := by
  intro pins s σ H x y v u Q I rx ry h
  obtain ⟨l, xs, rfl, rfl, hT, q⟩ := h
  cases rx
  obtain ⟨t, rfl⟩ := ry
  obtain ⟨its, r, ⟨⟨cls, dd, data, sl⟩, ho, hc, n, hd⟩, hs⟩ := I.tuple hT
  simp only at hc hd
  subst hc hd
  refine wpAny_binaryOp_repeat_ref (T := "tuple") (U := "int") (by decide) ⟨_, ho, rfl⟩ (fun s' => typeIs_int s' 1 t) noFill_tuple_mul F.fills_int_mul F.slot_int_rmul repeat_tuple F.slot_int_index.lookup
    (call_meets F.slot_int_rmul (typeIs_int s 1 t) F.entry_int_rmul (F.args_int_rmul_2 _ _) (int_rmul_tuple 1 t l its.toArray n dd sl)
      ⟨ho, rfl, ⟨_, ho, rfl⟩, call_meets F.slot_tuple_mul ⟨_, ho, rfl⟩ F.entry_tuple_mul (F.args_tuple_mul_2 _ _) (tuple_mul1 l its.toArray n dd sl t) ⟨ho, ?_⟩⟩)
  exact ⟨.ref l, H, I, rfl, q⟩
theorem op_tup0 : OpR X (binaryOp .Mult) (rTup0 X.K) := by
  intro pins s σ H x y v u Q I rx ry h
  obtain ⟨l, xs, rfl, rfl, hT, hne, q⟩ := h
  cases rx
  obtain ⟨t, rfl⟩ := ry
  obtain ⟨its, r, ⟨⟨cls, dd, data, sl⟩, ho, hc, n, hd⟩, hs⟩ := I.tuple hT
  simp only at hc hd
  subst hc hd
  have hle : its.length = xs.length := r.length.symm
  have hn : its ≠ [] := fun e => hne (by
    rw [e] at hle
    exact List.eq_nil_of_length_eq_zero hle.symm)
  have hi : its.toArray.isEmpty = false := by
    cases its with
    | nil => exact absurd rfl hn
    | cons a b => rfl
  refine wpAny_binaryOp_repeat_ref (T := "tuple") (U := "int") (by decide) ⟨_, ho, rfl⟩ (fun s' => typeIs_int s' 0 t) noFill_tuple_mul F.fills_int_mul F.slot_int_rmul repeat_tuple F.slot_int_index.lookup
    (call_meets F.slot_int_rmul (typeIs_int s 0 t) F.entry_int_rmul (F.args_int_rmul_2 _ _) (int_rmul_tuple 0 t l its.toArray n dd sl)
      ⟨ho, rfl, ⟨_, ho, rfl⟩, call_meets F.slot_tuple_mul ⟨_, ho, rfl⟩ F.entry_tuple_mul (F.args_tuple_mul_2 _ _) (tuple_mul0 l its.toArray n dd sl t hi) ⟨ho, ?_⟩⟩)
  refine ⟨.ref s.heap.objs.size, _, I.laid (t' := s.toks) (o := .tup []) (fun b ob q => Heap.get?_push_of_some _ q) (Nat.le_refl _) ?_, rfl, q _ (I.hok.fresh (Nat.le_refl _))⟩
  exact ⟨by show 0 ≤ sizeLine; exact Nat.zero_le _, [], .nil, IsTup.new _ _⟩
end
end L2

/-! The law's end: promises that know the guards, tables of code objects, exceptions of the program's own. -/
namespace Gd
open PySem PySem.Spec PyProof.Rows L2 LamX
section
variable {P : Program} {w : World} {K : PySem.W.Frag} {mg mb : Str → Option Value} {k : Nat} {fa a : Addr} {cs : List (Addr × Addr)} {fd : FuncData} {x : Str} {sp : Sp} {s₁ : Shared} {vs : List Value} {ns : List Int}
def isTab (cs : List (Addr × Addr)) (b : Addr) : Prop := ∃ p ∈ cs, p.2 = b
/-- the heap that is told: the script (or nothing of it) and the empty tables -/
structure Told (K : PySem.W.Frag) (cs : List (Addr × Addr)) (a : Addr) (H : Hp) : Prop where
  tab : ∀ p ∈ cs, H p.2 = some (.tbl #[])
  out : ∀ b, H b = none ∨ isTab cs b ∨ (b = a ∧ K.lookup a = none ∧ ∃ o xs, H b = some (.frz o (.lst xs)))
theorem law_atT {H : Hp} (KX : K.In s₁.heap) (hns : s₁.heap.Ns mainGlobals mg) (hb : s₁.heap.Ns builtinsNs mb) (hbb : ∀ x : Str, x ≠ "__name__" → mb x = bootBuiltins x) (hlim : s₁.heap.NoLimit) (hg : s₁.gens = #[])
    (hT : ∀ p ∈ cs, s₁.heap.get? p.2 = some { cls := .none, data := .fields #[] }) (nT : ∀ p ∈ cs, K.lookup p.2 = none) (C : ∀ p ∈ cs, PySem.W.CodeHd s₁.heap p.1 p.2)
    (hbm : ∃ (bm : Addr) (ob : Obj), mg "__builtins__" = some (.ref bm) ∧ bm ≠ builtinsNs ∧ s₁.heap.get? bm = some ob ∧ ob.cls = .type "module" ∧ ob.dict = some builtinsNs ∧ ob.data = .plain)
    (hobj : s₁.heap.get? a = some { cls := .type "list", data := .seq vs.toArray }) (hr : RoomG k callerA)
    (F : ∀ base : Heap, K.In base → base.Ns mainGlobals mg → (∀ p ∈ cs, TabB base mg p.1 p.2) → FnG P w K mg base (L2.CX P w) k fa fd [x] sp) (hbind : ∀ (s : Shared) (u : Value), BindsTo s fd ⟨[u], []⟩ [(x, u)])
    (hH : Told K cs a H) (hok : HOk P w H s₁.heap) (hsp : sp [.ref a] H (fun v _ => v = .bl true) fun _ _ _ => False) :
    codeAny (model P w) callerA (.call (.ref fa) ⟨[.ref a], []⟩) (fun r s' => r = .ok (.ret (.bool true)) ∧ OldK s₁.heap s'.heap ∧ s'.os = s₁.os ∧ AllBare s'.gens) s₁ := by
  -- what is neither a list nor an empty record is not told
  have free : ∀ {b : Addr} {o : Obj}, s₁.heap.get? b = some o → (∀ vs n, o.data ≠ .seq vs n) → o.data ≠ .fields #[] → H b = none := fun {b o} e h1 h2 => by
    rcases hH.out b with z | ⟨p, hp, rfl⟩ | ⟨rfl, _⟩
    · exact z
    · rw [hT p hp] at e
      cases e
      exact absurd rfl h2
    · rw [hobj] at e
      cases e
      exact absurd rfl (h1 _ _)
  have freeD : ∀ {b : Addr} {o : Obj} {es : Array DictEntry} {ep : Nat}, s₁.heap.get? b = some o → o.data = .dict es ep → H b = none := fun {b o es ep} e d => free e (fun vs n z => by rw [d] at z; cases z) fun z => by rw [d] at z; cases z
  have ns' : ∀ {b : Addr} {m : Str → Option Value}, s₁.heap.Ns b m → (hidT s₁.heap H).Ns b m := fun {b m} ⟨o, es, ep, e, d, r⟩ => ⟨o, es, ep, hidT_get e (freeD e d), d, r⟩
  have KX' : K.In (hidT s₁.heap H) := fun b o e => hidT_get (KX b o e) (by
    rcases hH.out b with z | ⟨p, hp, rfl⟩ | ⟨rfl, z, _⟩
    · exact z
    · rw [nT p hp] at e
      cases e
    · rw [z] at e
      cases e)
  have TB : ∀ p ∈ cs, TabB (hidT s₁.heap H) mg p.1 p.2 := fun p hp => by
    have tp := hT p hp
    refine ⟨?_, ?_, fun z => ?_⟩
    · obtain ⟨o, us, file, tf, flags, tg, inF, text, tt, e1, r1, r2, r3, more⟩ := C p hp
      refine ⟨o, us, file, tf, flags, tg, inF, text, tt, hidT_get e1 (free e1 (fun vs n z => ?_) fun z => ?_), r1, r2, r3, more⟩
      · rw [r2] at z
        cases z
      · rw [r2] at z
        cases z
        simp at r3
    · obtain ⟨bm, ob, b1, b2, b3, b4, b5, b6⟩ := hbm
      refine ⟨bm, ob, b1, b2, fun q => ?_, fun q => ?_, hidT_get b3 (free b3 (fun vs n z => by rw [b6] at z; cases z) fun z => by rw [b6] at z; cases z), b4, b5, b6⟩
      · obtain ⟨o, es, ep, e, hd, _⟩ := hns
        rw [q, e] at b3
        cases b3
        rw [hd] at b6
        cases b6
      · rw [q, tp] at b3
        cases b3
        cases b6
    · obtain ⟨o, es, ep, e, hd, _⟩ := hns
      rw [z, tp] at e
      cases e
      cases hd
  have e0 : Env0 P w K mg (hidT s₁.heap H) callerA [] s₁ H := by
    obtain ⟨mc, h1, h2⟩ := hlim
    exact ⟨rfl, ⟨KX', ns' hns, ⟨mb, ns' hb, hbb⟩, mc, ns' h1, h2⟩, fun b o e => of_hidT e, Nat.le_of_eq (hidT_size _ _), trivial, fun b z => absurd (show b ∈ ([] : List Addr) from z) (by simp), hok, .of_eq hg⟩
  refine codeAny_mono ((F _ KX' (ns' hns) TB).run callerA [] s₁ H ⟨[.ref a], []⟩ [.ref a] [.ref a] _ _ hr e0 (hbind s₁ (.ref a)) (.cons rfl .nil) hsp) fun r s' h => ?_
  cases r with
  | error e =>
    obtain ⟨_, _, _, _, _, _, _, _, _, _, _, _, z⟩ := h
    exact z.elim
  | ok fl =>
    cases fl with
    | next => exact False.elim h
    | brk => exact False.elim h
    | cont => exact False.elim h
    | ret u =>
      obtain ⟨v, H', os, bare, un, hok', r', q⟩ := h
      cases (show v = .bl true from q)
      cases (show u = Value.bool true from r')
      have noF : ∀ b : Addr, b ∉ frs ([] : List Env) := fun b z => absurd (show b ∈ ([] : List Addr) from z) (by simp)
      have grown : ∀ p ∈ cs, ∃ more : Array Value, s'.heap.get? p.2 = some { cls := .none, data := .fields more } := fun p hp => by
        obtain ⟨more, z⟩ := un.tbls p.2 #[] (hH.tab p hp)
        exact ⟨_, hok' p.2 _ z⟩
      have old : ∀ b o, ¬ isTab cs b → s₁.heap.get? b = some o → s'.heap.get? b = some o := fun b o nb e => by
        rcases hH.out b with q | q | ⟨_, _, ob, xs, q⟩
        · exact un.keep b o e q (noF b) (by simp)
        · exact absurd q nb
        · have e1 := (hok b _ q).1
          rw [e] at e1
          cases e1
          exact (hok' b _ (un.frzs b o _ q)).1
      refine ⟨rfl, ⟨fun b o e => ?_, fun b o e => ?_⟩, os, bare⟩
      · by_cases hb : isTab cs b
        · obtain ⟨p, hp, rfl⟩ := hb
          obtain ⟨more, hm⟩ := grown p hp
          rw [hT p hp] at e
          cases e
          exact .inr (.inl ⟨((C p hp).tab (hT p hp)).isCodeTable, rfl, #[], more, rfl, by rw [Array.empty_append]; exact hm⟩)
        · exact .inl (old b o hb e)
      · by_cases hb : isTab cs b
        · obtain ⟨p, hp, rfl⟩ := hb
          obtain ⟨more, hm⟩ := grown p hp
          exact ⟨_, hm⟩
        · exact ⟨o, old b o hb e⟩
open Classical in
theorem law_callT (KX : K.In s₁.heap) (hns : s₁.heap.Ns mainGlobals mg) (hb : s₁.heap.Ns builtinsNs mb) (hbb : ∀ x : Str, x ≠ "__name__" → mb x = bootBuiltins x) (hlim : s₁.heap.NoLimit) (hg : s₁.gens = #[])
    (hT : ∀ p ∈ cs, s₁.heap.get? p.2 = some { cls := .none, data := .fields #[] }) (nT : ∀ p ∈ cs, K.lookup p.2 = none) (C : ∀ p ∈ cs, PySem.W.CodeHd s₁.heap p.1 p.2)
    (hbm : ∃ (bm : Addr) (ob : Obj), mg "__builtins__" = some (.ref bm) ∧ bm ≠ builtinsNs ∧ s₁.heap.get? bm = some ob ∧ ob.cls = .type "module" ∧ ob.dict = some builtinsNs ∧ ob.data = .plain)
    (hobj : s₁.heap.get? a = some { cls := .type "list", data := .seq vs.toArray }) (hi : IntsAre vs ns) (hl : ns.length ≤ sizeLine) (hr : RoomG k callerA)
    (F : ∀ base : Heap, K.In base → base.Ns mainGlobals mg → (∀ p ∈ cs, TabB base mg p.1 p.2) → FnG P w K mg base (L2.CX P w) k fa fd [x] sp) (hbind : ∀ (s : Shared) (u : Value), BindsTo s fd ⟨[u], []⟩ [(x, u)])
    (hsp : ∀ H : Hp, Told K cs a H → SqL K H a (ns.map V.int) → sp [.ref a] H (fun v _ => v = .bl true) fun _ _ _ => False) :
    codeAny (model P w) callerA (.call (.ref fa) ⟨[.ref a], []⟩) (fun r s' => r = .ok (.ret (.bool true)) ∧ OldK s₁.heap s'.heap ∧ s'.os = s₁.os ∧ AllBare s'.gens) s₁ := by
  have na : ¬ isTab cs a := fun ⟨p, hp, z⟩ => by
    have e := hT p hp
    rw [z, hobj] at e
    cases e
  cases hk : K.lookup a with
  | some o =>
    have e := KX a o hk
    rw [hobj] at e
    cases e
    have h1 : ∀ b, isTab cs b → (fun b => if isTab cs b then some (HO.tbl #[]) else none : Hp) b = some (.tbl #[]) := fun b z => if_pos z
    have h2 : ∀ b, ¬ isTab cs b → (fun b => if isTab cs b then some (HO.tbl #[]) else none : Hp) b = none := fun b z => if_neg z
    revert h1 h2
    generalize (fun b => if isTab cs b then some (HO.tbl #[]) else none : Hp) = H
    intro h1 h2
    have TT : Told K cs a H := ⟨fun p hp => h1 _ ⟨p, hp, rfl⟩, fun b => by
      by_cases z : isTab cs b
      · exact .inr (.inl z)
      · exact .inl (h2 b z)⟩
    refine law_atT KX hns hb hbb hlim hg hT nT C hbm hobj hr F hbind TT (fun b u z => ?_) (hsp _ TT (.inr ⟨_, vs.toArray, _, hk, rfl, rfl, rfl, by rw [List.size_toArray, hi.length]; exact hl, by simpa using vals_ints hi⟩))
    by_cases q : isTab cs b
    · rw [h1 b q] at z
      cases z
      obtain ⟨p, hp, rfl⟩ := q
      exact hT p hp
    · rw [h2 b q] at z
      cases z
  | none =>
    have h0 : (fun b => if b = a then some (HO.frz { cls := .type "list", data := .seq vs.toArray } (.lst (ns.map V.int))) else if isTab cs b then some (HO.tbl #[]) else none : Hp) a = some (.frz { cls := .type "list", data := .seq vs.toArray } (.lst (ns.map V.int))) := if_pos rfl
    have h1 : ∀ b, isTab cs b → (fun b => if b = a then some (HO.frz { cls := .type "list", data := .seq vs.toArray } (.lst (ns.map V.int))) else if isTab cs b then some (HO.tbl #[]) else none : Hp) b = some (.tbl #[]) := fun b z => (if_neg fun q => na (by rw [← q]; exact z)).trans (if_pos z)
    have h2 : ∀ b, b ≠ a → ¬ isTab cs b → (fun b => if b = a then some (HO.frz { cls := .type "list", data := .seq vs.toArray } (.lst (ns.map V.int))) else if isTab cs b then some (HO.tbl #[]) else none : Hp) b = none := fun b q z => (if_neg q).trans (if_neg z)
    revert h0 h1 h2
    generalize (fun b => if b = a then some (HO.frz { cls := .type "list", data := .seq vs.toArray } (.lst (ns.map V.int))) else if isTab cs b then some (HO.tbl #[]) else none : Hp) = H
    intro h0 h1 h2
    have TT : Told K cs a H := ⟨fun p hp => h1 _ ⟨p, hp, rfl⟩, fun b => by
      by_cases q : b = a
      · exact .inr (.inr ⟨q, hk, _, _, by rw [q]; exact h0⟩)
      · by_cases z : isTab cs b
        · exact .inr (.inl z)
        · exact .inl (h2 b q z)⟩
    refine law_atT KX hns hb hbb hlim hg hT nT C hbm hobj hr F hbind TT (fun b u z => ?_) (hsp _ TT (.inl (.inr ⟨_, h0⟩)))
    by_cases q : b = a
    · subst q
      rw [h0] at z
      cases z
      exact ⟨hobj, by rw [List.length_map]; exact hl, vs, _, vals_ints hi, hobj⟩
    · by_cases t : isTab cs b
      · rw [h1 b t] at z
        cases z
        obtain ⟨p, hp, rfl⟩ := t
        exact hT p hp
      · rw [h2 b q t] at z
        cases z
end
/-- what is known of the law's promise at the head's heap h -/
def LawAtG (l : PySem.W.OpenLaw) (w : World) (K : PySem.W.Frag) (k n : Nat) (x : Str) (mg : Str → Option Value) (fa : Addr) (h : Heap) : Prop :=
  ∃ (fd : FuncData) (cs : List (Addr × Addr)) (sp : Sp), (∀ p ∈ cs, h.get? p.2 = some { cls := .none, data := .fields #[] }) ∧ (∀ p ∈ cs, K.lookup p.2 = none) ∧ (∀ p ∈ cs, PySem.W.CodeHd h p.1 p.2) ∧ (∀ (s : Shared) (u : Value), BindsTo s fd ⟨[u], []⟩ [(x, u)]) ∧
    (∀ (H : Hp) (a : Addr) (ns : List Int), ns.length ≤ n → (∀ z ∈ ns, Builtin.Int.intBits z ≤ 1048576) → Told K cs a H → SqL K H a (ns.map V.int) → sp [.ref a] H (fun v _ => v = .bl true) fun _ _ _ => False) ∧
    ∀ base : Heap, K.In base → base.Ns mainGlobals mg → (∀ p ∈ cs, TabB base mg p.1 p.2) → FnG l.prog w K mg base (L2.CX l.prog w) k fa fd [x] sp
theorem walk_ofGT {l : PySem.W.OpenLaw} {n k : Nat} {q : Program} {loose : List Str} {XP : (Str → Option Value) → Heap → Prop} {YP : World → Heap → Prop} {d : DefRec} {K : Params → PySem.W.Frag} {x : Str}
    (hn : l.most = some n) (hn2 : n ≤ sizeLine) (hdf : d.params.defaults = []) (hr : RoomG k callerA) (hY : ∀ (w : World) (h : Heap), YP w h → (K w.params).In h)
    (F : ∀ (w : World) (mg : Str → Option Value) (fa : Addr) (h : Heap), YP w h → (K w.params).In h → h.Ns mainGlobals mg → mg d.name = some (.ref fa) → LawAtG l w (K w.params) k n x mg fa h) :
    PySem.W.WalkO q loose XP YP l.row.toRowW d [] (fun f vs => PySem.call f vs) := by
  refine Att.attach_callB hn hdf fun w s₀ s₁ mg mb fa o pm cd doc a vs ns G Y ho hd hcd hmg hobj hints hlen hbits hg => ?_
  obtain ⟨fd, cs, sp, hT, nT, C, hb, hsp, hF⟩ := F w mg fa _ Y (hY w _ Y) G.T.g hmg
  exact law_callT (hY w _ Y) G.T.g G.T.b G.T.builtins G.T.nolimit hg hT nT C G.T.bmain hobj hints (Nat.le_trans hlen hn2) hr hF hb fun H hH hS => hsp H a ns hlen hbits hH hS
end Gd

/-! The functional layer: data, what a slot holds, the state. Values stand for plain data, instances too; what is still written is kept apart (M). -/
namespace FL
open PySem PySem.Spec PyProof.Rows L2 Gd Fx Stp
/-! ### the heap without the addresses of M -/
def hid (M : List Addr) (H : Hp) : Hp := fun b => if b ∈ M then none else H b
section
variable {M M' : List Addr} {H H' : Hp} {b p : Addr} {o : HO}
theorem hid_at (h : b ∉ M) : hid M H b = H b := if_neg h
theorem hid_in (h : b ∈ M) : hid M H b = none := if_pos h
theorem hid_some (e : hid M H b = some o) : b ∉ M ∧ H b = some o := by
  by_cases h : b ∈ M
  · rw [hid_in h] at e
    cases e
  · rw [hid_at h] at e
    exact ⟨h, e⟩
theorem hid_mk (h : b ∉ M) (e : H b = some o) : hid M H b = some o := by rw [hid_at h]; exact e
theorem hid_to : Same (hid M H) H := fun b o e => (hid_some e).2
theorem hid_same (s : Same H H') : Same (hid M H) (hid M H') := fun b o e => hid_mk (hid_some e).1 (s _ _ (hid_some e).2)
theorem hid_sub (h : ∀ p ∈ M', p ∈ M) : Same (hid M H) (hid M' H) := fun b o e => hid_mk (fun q => (hid_some e).1 (h b q)) (hid_some e).2
theorem hid_poke (hp : p ∈ M) : hid M (upd H p o) = hid M H := by
  funext b
  unfold hid
  by_cases hb : b ∈ M
  · rw [if_pos hb, if_pos hb]
  · rw [if_neg hb, if_neg hb, upd_ne fun q => hb (by rw [q]; exact hp)]
end
/-! ### data: classes by number -/
inductive D where
  | none
  | bool (b : Bool)
  | int (i : Int)
  | str (x : Str)
  | list (ds : List D)
  | tuple (ds : List D)
  | dict (es : List (D × D))
  | dicT (es : List (D × D))
  | obj (c : Nat) (fs : List (Str × D))
  | any
  | tag (k : Nat) (ds : List D)
mutual
def D.py : D → PyData
  | .none => .none
  | .bool b => .bool b
  | .int i => .int i
  | .str x => .str x
  | .list ds => .list (D.pyL ds)
  | .tuple ds => .tuple (D.pyL ds)
  | .dict _ => .dict []
  | .dicT _ => .dict []
  | .obj _ _ => .none
  | .any => .none
  | .tag _ _ => .none
def D.pyL : List D → List PyData
  | [] => []
  | d :: ds => d.py :: D.pyL ds
end
mutual
/-- neither dicts nor instances within -/
def D.flat : D → Bool
  | .none => true
  | .bool _ => true
  | .int _ => true
  | .str _ => true
  | .list ds => D.flatL ds
  | .tuple ds => D.flatL ds
  | .dict _ => false
  | .dicT _ => false
  | .obj _ _ => false
  | .any => false
  | .tag _ _ => false
def D.flatL : List D → Bool
  | [] => true
  | d :: ds => d.flat && D.flatL ds
end
def D.isObj : D → Bool
  | .obj .. => true
  | _ => false
/-- which of the frame's addresses the object of a slot has, if that is to be known -/
def D.tagOf : D → Option Nat
  | .tag k _ => some k
  | _ => Option.none
def D.kind : D → Nat
  | .obj .. => 1
  | .tag k _ => k + 2
  | _ => 0
def keyD : Key → D
  | .inl i => .int i
  | .inr x => .str x
/-- the written part, and where the classes stand -/
structure Kx where
  K : PySem.W.Frag
  ct : Nat → Addr
mutual
inductive DV (K : Kx) (G : Hp) : V → D → Prop
  | non : DV K G .non .none
  | bl (b : Bool) : DV K G (.bl b) (.bool b)
  | int (i : Int) : DV K G (.int i) (.int i)
  | str (x : Str) : DV K G (.str x) (.str x)
  | lst {a : Addr} {vs : List V} {ds : List D} : G a = some (.lst vs) → DVs K G vs ds → DV K G (.ref a) (.list ds)
  | tup {a : Addr} {vs : List V} {ds : List D} : SqT K.K G a vs → DVs K G vs ds → DV K G (.ref a) (.tuple ds)
  | dic {a : Addr} {kvs : List (Key × V)} {es : List (D × D)} : G a = some (.dK kvs) → DVk K G kvs es → DV K G (.ref a) (.dict es)
  | dit {a : Addr} {kvs : List (List Key × V)} {es : List (D × D)} : G a = some (.dT kvs) → DVt K G kvs es → DV K G (.ref a) (.dicT es)
  | obj {a dx : Addr} {c : Nat} {fs : List (Str × V)} {gs : List (Str × D)} : G a = some (.ins (K.ct c) dx fs) → DVf K G fs gs → DV K G (.ref a) (.obj c gs)
  | any (v : V) : DV K G v .any
  | tag {k : Nat} {a : Addr} {vs : List V} {ds : List D} : G a = some (.lst vs) → DVs K G vs ds → DV K G (.ref a) (.tag k ds)
inductive DVs (K : Kx) (G : Hp) : List V → List D → Prop
  | nil : DVs K G [] []
  | cons {v : V} {vs : List V} {d : D} {ds : List D} : DV K G v d → DVs K G vs ds → DVs K G (v :: vs) (d :: ds)
inductive DVk (K : Kx) (G : Hp) : List (Key × V) → List (D × D) → Prop
  | nil : DVk K G [] []
  | cons {k : Key} {v : V} {kvs : List (Key × V)} {d : D} {es : List (D × D)} : DV K G v d → DVk K G kvs es → DVk K G ((k, v) :: kvs) ((keyD k, d) :: es)
inductive DVt (K : Kx) (G : Hp) : List (List Key × V) → List (D × D) → Prop
  | nil : DVt K G [] []
  | cons {k : List Key} {v : V} {kvs : List (List Key × V)} {d : D} {es : List (D × D)} : DV K G v d → DVt K G kvs es → DVt K G ((k, v) :: kvs) ((.tuple (k.map keyD), d) :: es)
inductive DVf (K : Kx) (G : Hp) : List (Str × V) → List (Str × D) → Prop
  | nil : DVf K G [] []
  | cons {f : Str} {v : V} {fs : List (Str × V)} {d : D} {gs : List (Str × D)} : DV K G v d → DVf K G fs gs → DVf K G ((f, v) :: fs) ((f, d) :: gs)
end
section
variable {K : Kx} {G G' : Hp}
mutual
theorem DV.same (s : Same G G') : ∀ {v : V} {d : D}, DV K G v d → DV K G' v d
  | _, _, .non => .non
  | _, _, .bl b => .bl b
  | _, _, .int i => .int i
  | _, _, .str x => .str x
  | _, _, .lst h1 h2 => .lst (s _ _ h1) (DVs.same s h2)
  | _, _, .tup h1 h2 => .tup (seqT s h1) (DVs.same s h2)
  | _, _, .dic h1 h2 => .dic (s _ _ h1) (DVk.same s h2)
  | _, _, .dit h1 h2 => .dit (s _ _ h1) (DVt.same s h2)
  | _, _, .obj h1 h2 => .obj (s _ _ h1) (DVf.same s h2)
  | _, _, .any v => .any v
  | _, _, .tag h1 h2 => .tag (s _ _ h1) (DVs.same s h2)
theorem DVs.same (s : Same G G') : ∀ {vs : List V} {ds : List D}, DVs K G vs ds → DVs K G' vs ds
  | _, _, .nil => .nil
  | _, _, .cons h t => .cons (DV.same s h) (DVs.same s t)
theorem DVk.same (s : Same G G') : ∀ {vs : List (Key × V)} {ds : List (D × D)}, DVk K G vs ds → DVk K G' vs ds
  | _, _, .nil => .nil
  | _, _, .cons h t => .cons (DV.same s h) (DVk.same s t)
theorem DVt.same (s : Same G G') : ∀ {vs : List (List Key × V)} {ds : List (D × D)}, DVt K G vs ds → DVt K G' vs ds
  | _, _, .nil => .nil
  | _, _, .cons h t => .cons (DV.same s h) (DVt.same s t)
theorem DVf.same (s : Same G G') : ∀ {vs : List (Str × V)} {ds : List (Str × D)}, DVf K G vs ds → DVf K G' vs ds
  | _, _, .nil => .nil
  | _, _, .cons h t => .cons (DV.same s h) (DVf.same s t)
end
mutual
theorem DV.dp : ∀ (d : D) {v : V}, DV K G v d → d.flat = true → Dp K.K G v d.py
  | _, _, .non, _ => .non
  | _, _, .bl b, _ => .bl b
  | _, _, .int i, _ => .int i
  | _, _, .str x, _ => .str x
  | .list ds, _, .lst h1 h2, e => .lst (SqL.of h1) (DVs.dp ds h2 e)
  | .tuple ds, _, .tup h1 h2, e => .tup h1 (DVs.dp ds h2 e)
  | _, _, .dic h1 h2, e => by cases e
  | _, _, .dit h1 h2, e => by cases e
  | _, _, .obj h1 h2, e => by cases e
  | _, _, .any _, e => by cases e
  | _, _, .tag _ _, e => by cases e
theorem DVs.dp : ∀ (ds : List D) {vs : List V}, DVs K G vs ds → D.flatL ds = true → DpAll K.K G vs (D.pyL ds)
  | _, _, .nil, _ => .nil
  | d :: ds, _, .cons h t, e => by
    have e' : (d.flat && D.flatL ds) = true := e
    rw [Bool.and_eq_true_iff] at e'
    exact .cons (DV.dp d h e'.1) (DVs.dp ds t e'.2)
end
theorem DVs.length : ∀ {vs : List V} {ds : List D}, DVs K G vs ds → vs.length = ds.length
  | _, _, .nil => rfl
  | _, _, .cons _ t => congrArg (· + 1) t.length
theorem DVs.at_ : ∀ {vs : List V} {ds : List D} {i : Nat} {d : D}, DVs K G vs ds → ds[i]? = some d → ∃ v, vs[i]? = some v ∧ DV K G v d
  | _, _, i, _, .nil, e => by simp at e
  | _, _, 0, _, .cons h t, e => by cases e; exact ⟨_, rfl, h⟩
  | _, _, i + 1, _, .cons h t, e => t.at_ (i := i) e
theorem DVs.at' : ∀ {vs : List V} {ds : List D} {i : Nat} {v : V}, DVs K G vs ds → vs[i]? = some v → ∃ d, ds[i]? = some d ∧ DV K G v d
  | _, _, i, _, .nil, e => by simp at e
  | _, _, 0, _, .cons h t, e => by cases e; exact ⟨_, rfl, h⟩
  | _, _, i + 1, _, .cons h t, e => t.at' (i := i) e
theorem DVs.append : ∀ {vs us : List V} {ds es : List D}, DVs K G vs ds → DVs K G us es → DVs K G (vs ++ us) (ds ++ es)
  | _, _, _, _, .nil, h => h
  | _, _, _, _, .cons h t, r => .cons h (t.append r)
theorem DVs.drop : ∀ {vs : List V} {ds : List D} (k : Nat), DVs K G vs ds → DVs K G (vs.drop k) (ds.drop k)
  | _, _, 0, h => h
  | _, _, k + 1, .nil => .nil
  | _, _, k + 1, .cons _ t => t.drop k
theorem DVs.take : ∀ {vs : List V} {ds : List D} (k : Nat), DVs K G vs ds → DVs K G (vs.take k) (ds.take k)
  | _, _, 0, _ => .nil
  | _, _, k + 1, .nil => .nil
  | _, _, k + 1, .cons h t => .cons h (t.take k)
end
/-- what an object holds -/
inductive HV (K : Kx) (G : Hp) : HO → D → Prop
  | lst {vs : List V} {ds : List D} : DVs K G vs ds → HV K G (.lst vs) (.list ds)
  | tag {k : Nat} {vs : List V} {ds : List D} : DVs K G vs ds → HV K G (.lst vs) (.tag k ds)
  | dic {kvs : List (Key × V)} {es : List (D × D)} : DVk K G kvs es → HV K G (.dK kvs) (.dict es)
  | dit {kvs : List (List Key × V)} {es : List (D × D)} : DVt K G kvs es → HV K G (.dT kvs) (.dicT es)
  | obj {c : Nat} {dx : Addr} {fs : List (Str × V)} {gs : List (Str × D)} : DVf K G fs gs → HV K G (.ins (K.ct c) dx fs) (.obj c gs)
theorem HV.same {K : Kx} {G G' : Hp} (s : Same G G') {o : HO} {d : D} (h : HV K G o d) : HV K G' o d := by
  cases h with
  | lst h => exact .lst (h.same s)
  | tag h => exact .tag (h.same s)
  | dic h => exact .dic (h.same s)
  | dit h => exact .dit (h.same s)
  | obj h => exact .obj (h.same s)
theorem HV.dv {K : Kx} {G : Hp} {a : Addr} {o : HO} {d : D} (h : HV K G o d) (e : G a = some o) : DV K G (.ref a) d := by
  cases h with
  | lst h => exact .lst e h
  | tag h => exact .tag e h
  | dic h => exact .dic e h
  | dit h => exact .dit e h
  | obj h => exact .obj e h
theorem HV.tbl {K : Kx} {G : Hp} {o : HO} {d : D} (h : HV K G o d) : ∀ ps, o ≠ HO.tbl ps := fun ps z => by
  subst z
  cases h
/-- an exception of the program's own: its class, its fields -/
structure Xn where
  c : Nat
  fs : List (Str × D)
def XnOk (K : Kx) (G : Hp) (cls : Value) (d : Option Addr) (x : Xn) : Prop := cls = .ref (K.ct x.c) ∧ ((x.fs = [] ∧ d = none) ∨ ∃ dd vs, d = some dd ∧ G dd = some (.xd ((x.fs.map Prod.fst).zip vs)) ∧ DVs K G vs (x.fs.map Prod.snd))
theorem XnOk.same {K : Kx} {G G' : Hp} {cls : Value} {d : Option Addr} {x : Xn} (h : XnOk K G cls d x) (s : Same G G') : XnOk K G' cls d x := by
  obtain ⟨h1, h | ⟨dd, vs, h2, h3, h4⟩⟩ := h
  · exact ⟨h1, .inl h⟩
  · exact ⟨h1, .inr ⟨dd, vs, h2, s _ _ h3, h4.same s⟩⟩
/-! ### what runs: a value, an exception, no answer, a draw -/
inductive T (ε α : Type) : Type where
  | ret (a : α)
  | ex (e : ε)
  | bad
  | draw (m : Int) (k : Int → T ε α)
namespace T
variable {ε ε' α β γ : Type}
def bind : T ε α → (α → T ε β) → T ε β
  | .ret a, f => f a
  | .ex e, _ => .ex e
  | .bad, _ => .bad
  | .draw m k, f => .draw m fun v => (k v).bind f
instance : Monad (T ε) where
  pure := .ret
  bind := T.bind
def mapEx (g : ε → ε') : T ε α → T ε' α
  | .ret a => .ret a
  | .ex e => .ex (g e)
  | .bad => .bad
  | .draw m k => .draw m fun v => (k v).mapEx g
/-- an exception is no answer -/
def noex : T ε α → T ε' α
  | .ret a => .ret a
  | .ex _ => .bad
  | .bad => .bad
  | .draw m k => .draw m fun v => (k v).noex
def catch_ : T ε α → (ε → T ε' α) → T ε' α
  | .ret a, _ => .ret a
  | .ex e, h => h e
  | .bad, _ => .bad
  | .draw m k, h => .draw m fun v => (k v).catch_ h
def of : Option α → T ε α
  | some a => .ret a
  | none => .bad
def wp : T ε α → Nat → (α → Nat → Prop) → (ε → Nat → Prop) → Prop
  | .ret a, n, Q, _ => Q a n
  | .ex e, n, _, Z => Z e n
  | .bad, _, _, _ => False
  | .draw m k, n, Q, Z => m < 1073741824 ∧ n ≤ 1048576 ∧ ∀ v : Int, 0 ≤ v → (v = 0 ∨ v < m) → (k v).wp (n + 1) Q Z
theorem wp_mono {Q Q' : α → Nat → Prop} {Z Z' : ε → Nat → Prop} (hq : ∀ a n, Q a n → Q' a n) (hz : ∀ e n, Z e n → Z' e n) : ∀ (t : T ε α) (n : Nat), t.wp n Q Z → t.wp n Q' Z'
  | .ret a, n, h => hq a n h
  | .ex e, n, h => hz e n h
  | .bad, n, h => h
  | .draw m k, n, ⟨h1, h2, h⟩ => ⟨h1, h2, fun v a b => wp_mono hq hz (k v) (n + 1) (h v a b)⟩
theorem wp_bind {Q : β → Nat → Prop} {Z : ε → Nat → Prop} {f : α → T ε β} : ∀ (t : T ε α) (n : Nat), (t.bind f).wp n Q Z ↔ t.wp n (fun a m => (f a).wp m Q Z) Z
  | .ret a, n => Iff.rfl
  | .ex e, n => Iff.rfl
  | .bad, n => Iff.rfl
  | .draw m k, n => and_congr Iff.rfl (and_congr Iff.rfl (forall_congr' fun v => forall_congr' fun _ => forall_congr' fun _ => wp_bind (k v) (n + 1)))
theorem wp_mapEx {Q : α → Nat → Prop} {Z : ε' → Nat → Prop} {g : ε → ε'} : ∀ (t : T ε α) (n : Nat), (t.mapEx g).wp n Q Z ↔ t.wp n Q (fun e m => Z (g e) m)
  | .ret a, n => Iff.rfl
  | .ex e, n => Iff.rfl
  | .bad, n => Iff.rfl
  | .draw m k, n => and_congr Iff.rfl (and_congr Iff.rfl (forall_congr' fun v => forall_congr' fun _ => forall_congr' fun _ => wp_mapEx (k v) (n + 1)))
theorem wp_noex {Q : α → Nat → Prop} {Z : ε' → Nat → Prop} : ∀ (t : T ε α) (n : Nat), (t.noex : T ε' α).wp n Q Z ↔ t.wp n Q (fun _ _ => False)
  | .ret a, n => Iff.rfl
  | .ex e, n => Iff.rfl
  | .bad, n => Iff.rfl
  | .draw m k, n => and_congr Iff.rfl (and_congr Iff.rfl (forall_congr' fun v => forall_congr' fun _ => forall_congr' fun _ => wp_noex (k v) (n + 1)))
theorem wp_catch {Q : α → Nat → Prop} {Z : ε' → Nat → Prop} {h : ε → T ε' α} : ∀ (t : T ε α) (n : Nat), (t.catch_ h).wp n Q Z ↔ t.wp n Q (fun e m => (h e).wp m Q Z)
  | .ret a, n => Iff.rfl
  | .ex e, n => Iff.rfl
  | .bad, n => Iff.rfl
  | .draw m k, n => and_congr Iff.rfl (and_congr Iff.rfl (forall_congr' fun v => forall_congr' fun _ => forall_congr' fun _ => wp_catch (k v) (n + 1)))
theorem wp_of {Q : α → Nat → Prop} {Z : ε → Nat → Prop} {o : Option α} {n : Nat} : (of o : T ε α).wp n Q Z ↔ ∃ a, o = some a ∧ Q a n := by
  cases o with
  | none => exact ⟨fun h => h.elim, fun ⟨_, e, _⟩ => by cases e⟩
  | some a => exact ⟨fun h => ⟨a, rfl, h⟩, fun ⟨_, e, h⟩ => by cases e; exact h⟩
@[simp] theorem ret_bind (a : α) (f : α → T ε β) : (T.ret a).bind f = f a := rfl
@[simp] theorem ex_bind (e : ε) (f : α → T ε β) : (T.ex e).bind f = .ex e := rfl
@[simp] theorem bad_bind (f : α → T ε β) : (T.bad).bind f = .bad := rfl
end T
/-! ### what a slot holds -/
/-- the frame: K the written part, M0 what the caller keeps apart, H0 the heap at the entry, wl the well, tb the tables of code objects, slf the instance that is being made, xc the exception that is handled, anc other heaps of which all is kept, fn the lambda that was handed in -/
structure Fc where
  K : Kx
  M0 : List Addr
  H0 : Hp
  wl : Option (Addr × Addr × List Int)
  tb : List (Addr × Str)
  slf : Option (Addr × Addr) := none
  xc : Option (Addr × Value × Option Addr) := none
  anc : List (List Addr × Hp) := []
  fn : Option Addr := none
  al : List Addr := []
def Fc.more (F : Fc) (A : List Addr × Hp) : Fc := { F with anc := A :: F.anc }
/-- what an address of M0 is that may be written: the well, the instance that is made -/
def Fc.wr (F : Fc) (p : Addr) : Prop := (∃ q, F.wl = some q ∧ p = q.1) ∨ ∃ q, F.slf = some q ∧ p = q.1
inductive W where
  | d (x : D)
  | ln (x : D)
  | wl
  | fn
  | xc (x : Xn)
  | al (k : Nat)
/-- an object kept apart, lent to an expression -/
def LnOk (F : Fc) (M : List Addr) (H : Hp) (v : V) (x : D) : Prop := ∃ p o, v = .ref p ∧ p ∈ M ∧ (∀ q, F.wl = some q → p ≠ q.1) ∧ H p = some o ∧ HV F.K (hid M H) o x
def VOk (F : Fc) (M : List Addr) (H : Hp) (v : V) : W → Prop
  | .d x => DV F.K (hid M H) v x
  | .ln x => LnOk F M H v x
  | .wl => ∃ p, F.wl = some p ∧ v = .ref p.1
  | .fn => ∃ f, F.fn = some f ∧ v = .ref f
  | .xc x => ∃ a cls d, F.xc = some (a, cls, d) ∧ v = .ref a ∧ XnOk F.K (hid M H) cls d x
  | .al k => ∃ p, F.al[k]? = some p ∧ v = .ref p
/-- what an expression leaves: all that is seen, and what is kept apart but the well -/
structure Kp (F : Fc) (M : List Addr) (H H' : Hp) : Prop where
  s : Same (hid M H) (hid M H')
  f : ∀ p ∈ M, (∀ q, F.wl = some q → p ≠ q.1) → ∀ o, (∀ ps, o ≠ HO.tbl ps) → H p = some o → H' p = some o
theorem Kp.refl {F : Fc} {M : List Addr} {H : Hp} : Kp F M H H := ⟨Same.refl _, fun _ _ _ _ _ e => e⟩
theorem Kp.trans {F : Fc} {M : List Addr} {H H1 H2 : Hp} (a : Kp F M H H1) (b : Kp F M H1 H2) : Kp F M H H2 := ⟨a.s.trans b.s, fun p hp hq o ho e => b.f p hp hq o ho (a.f p hp hq o ho e)⟩
theorem Kp.of {F : Fc} {M : List Addr} {H H' : Hp} (s : Same H H') : Kp F M H H' := ⟨hid_same s, fun p _ _ o _ e => s _ _ e⟩
theorem LnOk.kp {F : Fc} {M : List Addr} {H H' : Hp} {v : V} {x : D} (k : Kp F M H H') (h : LnOk F M H v x) : LnOk F M H' v x := by
  obtain ⟨p, o, e, hp, hw, h1, h2⟩ := h
  exact ⟨p, o, e, hp, hw, k.f p hp hw o h2.tbl h1, h2.same k.s⟩
theorem VOk.kp {F : Fc} {M : List Addr} {H H' : Hp} {v : V} (k : Kp F M H H') : ∀ {w : W}, VOk F M H v w → VOk F M H' v w
  | .d _, h => DV.same k.s h
  | .ln _, h => LnOk.kp k h
  | .wl, h => h
  | .fn, h => h
  | .al _, h => h
  | .xc _, ⟨a, cls, d, h1, h2, h3⟩ => ⟨a, cls, d, h1, h2, h3.same k.s⟩
inductive VOks (F : Fc) (M : List Addr) (H : Hp) : List V → List W → Prop
  | nil : VOks F M H [] []
  | cons {v : V} {vs : List V} {w : W} {ws : List W} : VOk F M H v w → VOks F M H vs ws → VOks F M H (v :: vs) (w :: ws)
theorem VOks.kp {F : Fc} {M : List Addr} {H H' : Hp} (k : Kp F M H H') : ∀ {vs : List V} {ws : List W}, VOks F M H vs ws → VOks F M H' vs ws
  | _, _, .nil => .nil
  | _, _, .cons h t => .cons (h.kp k) (t.kp k)
theorem VOks.length {F : Fc} {M : List Addr} {H : Hp} : ∀ {vs : List V} {ws : List W}, VOks F M H vs ws → vs.length = ws.length
  | _, _, .nil => rfl
  | _, _, .cons _ t => congrArg (· + 1) t.length
inductive S where
  | v (w : W)
  | own (d : D)
abbrev Sl := List (Option S)
/-- the well: its cells in G, n draws at most were begun -/
def WlAt (G H : Hp) (n : Nat) (p : Addr × Addr × List Int) : Prop := p.2.2.length ≤ 60 ∧ G p.2.1 = some (.lst (p.2.2.map V.int)) ∧ ∃ t r : Int, H p.1 = some (.lst [.ref p.2.1, .int t, .int r]) ∧ 0 ≤ t ∧ t ≤ (n : Int) ∧ 0 ≤ r
/-- the own dict of an instance that is kept apart -/
def DxOk (F : Fc) (M : List Addr) (H : Hp) (p : Addr) (o : HO) : Prop := ∀ C dx fs, o = .ins C dx fs → dx ∈ M ∧ H dx = some (.own p) ∧ (dx ∉ F.M0 ∨ ∃ q, F.slf = some q ∧ dx = q.2)
structure Ok (F : Fc) (M : List Addr) (σ : L2.St) (H : Hp) (δ : Sl) (n : Nat) : Prop where
  len : σ.length = δ.length
  val : ∀ (i : Nat) (w : W), δ[i]? = some (some (S.v w)) → ∃ v, σ[i]? = some (some v) ∧ VOk F M H v w
  own : ∀ (i : Nat) (x : D), δ[i]? = some (some (S.own x)) → ∃ p o, σ[i]? = some (some (V.ref p)) ∧ p ∈ M ∧ ((p ∉ F.M0 ∧ x.isObj = false ∧ ∀ k, x.tagOf = some k → F.al[k]? = some p) ∨ ∃ q, F.slf = some q ∧ p = q.1 ∧ x.isObj = true) ∧ H p = some o ∧ HV F.K (hid M H) o x ∧ DxOk F M H p o
  dis : ∀ (i j : Nat) (x y : D) (p : Addr), δ[i]? = some (some (S.own x)) → δ[j]? = some (some (S.own y)) → σ[i]? = some (some (V.ref p)) → σ[j]? = some (some (V.ref p)) → i = j
  nol : ∀ (i : Nat) (x : D), δ[i]? ≠ some (some (S.v (.ln x)))
  sub : ∀ p ∈ F.M0, p ∈ M
  new : ∀ p ∈ M, p ∈ F.M0 ∨ F.H0 p = none
  al : ∀ p ∈ M, ∃ o, H p = some o
  ext : Same (hid F.M0 F.H0) (hid F.M0 H)
  frm : ∀ p ∈ F.M0, ¬ F.wr p → ∀ o, (∀ ps, o ≠ HO.tbl ps) → F.H0 p = some o → H p = some o
  tab : LamX.Tabs F.tb H ∧ ∀ p ∈ F.tb, p.1 ∈ F.M0
  wel : ∀ p, F.wl = some p → p.1 ∈ F.M0 ∧ WlAt (hid M H) H n p
  anc : ∀ A ∈ F.anc, Same (hid A.1 A.2) (hid A.1 H) ∧ ∀ p ∈ M, p ∈ A.1 ∨ A.2 p = none
  sw : ∀ q, F.slf = some q → (q.1 ∈ F.M0 ∧ q.2 ∈ F.M0 ∧ q.1 ≠ q.2 ∧ F.H0 q.2 = some (.own q.1)) ∧ ∀ p, F.wl = some p → p.1 ≠ q.1
end FL

/-! The state's changes; what a caller is told. -/
namespace FL
open PySem PySem.Spec PyProof.Rows L2 Gd Fx Stp
section
variable {F : Fc} {M : List Addr} {σ : L2.St} {H H' : Hp} {δ : Sl} {n n' : Nat}
theorem set_cases {α : Type} {l : List α} {i j : Nat} {x y : α} (h : (l.set i x)[j]? = some y) : (i = j ∧ y = x ∧ i < l.length) ∨ (i ≠ j ∧ l[j]? = some y) := by
  by_cases e : i = j
  · subst e
    by_cases hl : i < l.length
    · rw [List.getElem?_set_self hl] at h
      exact .inl ⟨rfl, (Option.some.inj h).symm, hl⟩
    · rw [List.set_eq_of_length_le (Nat.le_of_not_lt hl), List.getElem?_eq_none (Nat.le_of_not_lt hl)] at h
      cases h
  · rw [List.getElem?_set_ne e] at h
    exact .inr ⟨e, h⟩
theorem DxOk.same {p : Addr} {o : HO} (s : Same H H') (h : DxOk F M H p o) : DxOk F M H' p o := fun C dx fs e => let ⟨a, b, c⟩ := h C dx fs e; ⟨a, s _ _ b, c⟩
theorem Ok.fresh (h : Ok F M σ H δ n) {p : Addr} (hp : H p = none) : p ∉ M := fun q => by
  obtain ⟨o, e⟩ := h.al p q
  rw [hp] at e
  cases e
/-- an expression was run -/
theorem Ok.same (h : Ok F M σ H δ n) (s : Same H H') : Ok F M σ H' δ n where
  len := h.len
  val := fun i w e => let ⟨v, h1, h2⟩ := h.val i w e; ⟨v, h1, h2.kp (Kp.of s)⟩
  own := fun i x e => let ⟨p, o, h1, h2, h3, h4, h5, h6⟩ := h.own i x e; ⟨p, o, h1, h2, h3, s _ _ h4, h5.same (hid_same s), h6.same s⟩
  dis := h.dis
  nol := h.nol
  sub := h.sub
  new := h.new
  al := fun p hp => let ⟨o, e⟩ := h.al p hp; ⟨o, s _ _ e⟩
  ext := h.ext.trans (hid_same s)
  frm := fun p hp hw o ho e => s _ _ (h.frm p hp hw o ho e)
  tab := ⟨h.tab.1.ext s, h.tab.2⟩
  wel := fun p e => let ⟨h1, h2, h3, t, r, h4, h5, h6, h7⟩ := h.wel p e; ⟨h1, h2, hid_same s _ _ h3, t, r, s _ _ h4, h5, h6, h7⟩
  anc := fun A hA => ⟨(h.anc A hA).1.trans (hid_same s), (h.anc A hA).2⟩
  sw := h.sw
theorem Ok.le (h : Ok F M σ H δ n) {m : Nat} (hm : n ≤ m) : Ok F M σ H δ m :=
  { h with wel := fun p e => let ⟨h1, h2, h3, t, r, h4, h5, h6, h7⟩ := h.wel p e; ⟨h1, h2, h3, t, r, h4, h5, by omega, h7⟩ }
/-- a slot is set -/
theorem Ok.set {i : Nat} {v : V} {w : W} (h : Ok F M σ H δ n) (hv : VOk F M H v w) (hn : ∀ x, w ≠ .ln x) : Ok F M (σ.set i (some v)) H (δ.set i (some (S.v w))) n := by
  refine { h with len := by rw [List.length_set, List.length_set]; exact h.len, val := fun j u e => ?_, own := fun j x e => ?_, dis := fun j k x y p e1 e2 g1 g2 => ?_, nol := fun j x e => ?_ }
  · rcases set_cases e with ⟨rfl, eq, hl⟩ | ⟨ne, e'⟩
    · cases eq
      exact ⟨v, List.getElem?_set_self (by rw [h.len]; exact hl), hv⟩
    · obtain ⟨u', h1, h2⟩ := h.val j u e'
      exact ⟨u', by rw [List.getElem?_set_ne ne]; exact h1, h2⟩
  · rcases set_cases e with ⟨rfl, eq, hl⟩ | ⟨ne, e'⟩
    · cases eq
    · obtain ⟨p, o, h1, h2⟩ := h.own j x e'
      exact ⟨p, o, by rw [List.getElem?_set_ne ne]; exact h1, h2⟩
  · rcases set_cases e1 with ⟨rfl, eq, hl⟩ | ⟨ne, e1'⟩
    · cases eq
    · rcases set_cases e2 with ⟨rfl, eq, hl⟩ | ⟨ne', e2'⟩
      · cases eq
      · rw [List.getElem?_set_ne ne] at g1
        rw [List.getElem?_set_ne ne'] at g2
        exact h.dis _ _ _ _ _ e1' e2' g1 g2
  · rcases set_cases e with ⟨rfl, eq, hl⟩ | ⟨ne, e'⟩
    · cases eq
      exact hn x rfl
    · exact h.nol j x e'
/-- a slot forgotten -/
theorem Ok.drop {i : Nat} {v : Option V} (h : Ok F M σ H δ n) : Ok F M (σ.set i v) H (δ.set i none) n := by
  refine { h with len := by rw [List.length_set, List.length_set]; exact h.len, val := fun j u e => ?_, own := fun j x e => ?_, dis := fun j k x y p e1 e2 g1 g2 => ?_, nol := fun j x e => ?_ }
  · rcases set_cases e with ⟨rfl, eq, hl⟩ | ⟨ne, e'⟩
    · cases eq
    · obtain ⟨u', h1, h2⟩ := h.val j u e'
      exact ⟨u', by rw [List.getElem?_set_ne ne]; exact h1, h2⟩
  · rcases set_cases e with ⟨rfl, eq, hl⟩ | ⟨ne, e'⟩
    · cases eq
    · obtain ⟨p, o, h1, h2⟩ := h.own j x e'
      exact ⟨p, o, by rw [List.getElem?_set_ne ne]; exact h1, h2⟩
  · rcases set_cases e1 with ⟨rfl, eq, hl⟩ | ⟨ne, e1'⟩
    · cases eq
    · rcases set_cases e2 with ⟨rfl, eq, hl⟩ | ⟨ne', e2'⟩
      · cases eq
      · rw [List.getElem?_set_ne ne] at g1
        rw [List.getElem?_set_ne ne'] at g2
        exact h.dis _ _ _ _ _ e1' e2' g1 g2
  · rcases set_cases e with ⟨rfl, eq, hl⟩ | ⟨ne, e'⟩
    · cases eq
    · exact h.nol j x e'
/-- a new object, kept apart -/
theorem Ok.add {p : Addr} (h : Ok F M σ H δ n) (np : H p = none) (s : Same H H') {o : HO} (e : H' p = some o) : Ok F (p :: M) σ H' δ n ∧ Same (hid M H) (hid (p :: M) H') := by
  have k : Same (hid M H) (hid (p :: M) H') := fun b u e' => by
    obtain ⟨h1, h2⟩ := hid_some e'
    refine hid_mk (fun q => ?_) (s _ _ h2)
    rcases List.mem_cons.mp q with rfl | q
    · rw [np] at h2
      cases h2
    · exact h1 q
  refine ⟨{ (h.same s) with val := fun i w e' => ?_, own := fun i x e' => ?_, sub := fun q hq => List.mem_cons_of_mem _ (h.sub q hq), new := fun q hq => ?_, al := fun q hq => ?_, wel := fun q e' => ?_, anc := fun A hA => ⟨((h.same s).anc A hA).1, fun q hq => ?_⟩ }, k⟩
  · obtain ⟨v, h1, h2⟩ := h.val i w e'
    refine ⟨v, h1, ?_⟩
    cases w with
    | d x => exact DV.same k h2
    | ln x => exact absurd e' (h.nol i x)
    | wl => exact h2
    | fn => exact h2
    | al k => exact h2
    | xc x =>
      obtain ⟨a, cls, d, h3, h4, h5⟩ := h2
      exact ⟨a, cls, d, h3, h4, h5.same k⟩
  · obtain ⟨q, o', h1, h2, h3, h4, h5, h6⟩ := h.own i x e'
    exact ⟨q, o', h1, List.mem_cons_of_mem _ h2, h3, s _ _ h4, h5.same k, fun C dx fs e => let ⟨a, b, c⟩ := h6 C dx fs e; ⟨List.mem_cons_of_mem _ a, s _ _ b, c⟩⟩
  · rcases List.mem_cons.mp hq with rfl | hq
    · right
      cases z : F.H0 q with
      | none => rfl
      | some o' =>
        by_cases hm : q ∈ F.M0
        · obtain ⟨o2, e2⟩ := h.al q (h.sub q hm)
          rw [np] at e2
          cases e2
        · have z' := (hid_some (h.ext q o' (hid_mk hm z))).2
          rw [np] at z'
          cases z'
    · exact h.new q hq
  · rcases List.mem_cons.mp hq with rfl | hq
    · exact ⟨o, e⟩
    · obtain ⟨o', e'⟩ := h.al q hq
      exact ⟨o', s _ _ e'⟩
  · obtain ⟨h1, h2, h3, t, r, h4, h5⟩ := h.wel q e'
    exact ⟨h1, h2, k _ _ h3, t, r, s _ _ h4, h5⟩
  · rcases List.mem_cons.mp hq with rfl | hq
    · by_cases hm : q ∈ A.1
      · exact .inl hm
      · right
        cases z : A.2 q with
        | none => rfl
        | some o' =>
          have z' := (hid_some ((h.anc A hA).1 q o' (hid_mk hm z))).2
          rw [np] at z'
          cases z'
    · exact (h.anc A hA).2 q hq
/-- an object of its own gets a slot -/
theorem Ok.setOwn {i : Nat} {p : Addr} {o : HO} {x : D} (h : Ok F M σ H δ n) (hp : p ∈ M) (h0 : p ∉ F.M0) (hn : ∀ j y, δ[j]? = some (some (S.own y)) → σ[j]? = some (some (V.ref p)) → i = j) (e : H p = some o) (hv : HV F.K (hid M H) o x) (hd : DxOk F M H p o) (nx : x.isObj = false) (nt : ∀ k, x.tagOf = some k → F.al[k]? = some p) :
    Ok F M (σ.set i (some (.ref p))) H (δ.set i (some (S.own x))) n := by
  refine { h with len := by rw [List.length_set, List.length_set]; exact h.len, val := fun j u e => ?_, own := fun j y e' => ?_, dis := fun j k y z q e1 e2 g1 g2 => ?_, nol := fun j x e => ?_ }
  · rcases set_cases e with ⟨rfl, eq, hl⟩ | ⟨ne, e'⟩
    · cases eq
    · obtain ⟨u', h1, h2⟩ := h.val j u e'
      exact ⟨u', by rw [List.getElem?_set_ne ne]; exact h1, h2⟩
  · rcases set_cases e' with ⟨rfl, eq, hl⟩ | ⟨ne, e'⟩
    · cases eq
      exact ⟨p, o, List.getElem?_set_self (by rw [h.len]; exact hl), hp, .inl ⟨h0, nx, nt⟩, e, hv, hd⟩
    · obtain ⟨q, o', h1, h2⟩ := h.own j y e'
      exact ⟨q, o', by rw [List.getElem?_set_ne ne]; exact h1, h2⟩
  · rcases set_cases e1 with ⟨rfl, eq, hl⟩ | ⟨ne, e1'⟩
    · rw [List.getElem?_set_self (by rw [h.len]; exact hl)] at g1
      cases g1
      rcases set_cases e2 with ⟨rfl, eq, hl'⟩ | ⟨ne', e2'⟩
      · rfl
      · rw [List.getElem?_set_ne ne'] at g2
        exact hn _ _ e2' g2
    · rw [List.getElem?_set_ne ne] at g1
      rcases set_cases e2 with ⟨rfl, eq, hl'⟩ | ⟨ne', e2'⟩
      · rw [List.getElem?_set_self (by rw [h.len]; exact hl')] at g2
        cases g2
        exact (hn _ _ e1' g1).symm
      · rw [List.getElem?_set_ne ne'] at g2
        exact h.dis _ _ _ _ _ e1' e2' g1 g2
  · rcases set_cases e with ⟨rfl, eq, hl⟩ | ⟨ne, e'⟩
    · cases eq
    · exact h.nol j x e'
theorem HV.code {K : Kx} {G : Hp} {o : HO} {d : D} (h : HV K G o d) {a : Addr} {q : Str} : o ≠ LamX.CodeO a q := fun z => by
  subst z
  cases h
theorem tabs_upd {T : List (Addr × Str)} {H : Hp} {p : Addr} {o o' : HO} {K : Kx} {G : Hp} {x : D} (t : LamX.Tabs T H) (h1 : H p = some o) (h2 : HV K G o x) : LamX.Tabs T (upd H p o') := fun q hq => by
  obtain ⟨ps, a, b, c⟩ := t q hq
  have nq : q.1 ≠ p := fun z => by
    rw [z, h1] at a
    exact h2.tbl ps (Option.some.inj a)
  refine ⟨ps, by rw [upd_ne nq]; exact a, b, fun pos cv e => ?_⟩
  obtain ⟨d, rfl, e2⟩ := c pos cv e
  refine ⟨d, rfl, ?_⟩
  rw [upd_ne fun z => ?_]
  · exact e2
  · rw [z, h1] at e2
    exact h2.code (Option.some.inj e2)
/-- an object kept apart is written: all but its own slot -/
structure Wr (F : Fc) (M : List Addr) (H : Hp) (p : Addr) (o : HO) (x : D) : Prop where
  hp : p ∈ M
  h0 : p ∉ F.M0 ∨ ∃ q, F.slf = some q ∧ p = q.1
  e : H p = some o
  v : HV F.K (hid M H) o x
theorem Ok.upd_ (h : Ok F M σ H δ n) {p : Addr} {o o' : HO} {x : D} (w : Wr F M H p o x) {δ' : Sl} (hl : δ'.length = δ.length) (hv : ∀ (i : Nat) (u : W), δ'[i]? = some (some (S.v u)) → δ[i]? = some (some (S.v u)))
    (ho : ∀ (i : Nat) (y : D), δ'[i]? = some (some (S.own y)) → ∃ q u, σ[i]? = some (some (V.ref q)) ∧ q ∈ M ∧ ((q ∉ F.M0 ∧ y.isObj = false ∧ ∀ k, y.tagOf = some k → F.al[k]? = some q) ∨ ∃ r, F.slf = some r ∧ q = r.1 ∧ y.isObj = true) ∧ upd H p o' q = some u ∧ HV F.K (hid M H) u y ∧ DxOk F M H q u)
    (hd : ∀ (i j : Nat) (x y : D) (q : Addr), δ'[i]? = some (some (S.own x)) → δ'[j]? = some (some (S.own y)) → σ[i]? = some (some (V.ref q)) → σ[j]? = some (some (V.ref q)) → i = j) : Ok F M σ (upd H p o') δ' n := by
  have k : hid M (upd H p o') = hid M H := hid_poke w.hp
  have ns : ∀ q, F.slf = some q → p ≠ q.2 := fun q eq z => by
    obtain ⟨⟨s1, s2, s3, s4⟩, _⟩ := h.sw q eq
    rcases w.h0 with h0 | ⟨r, er, z2⟩
    · exact h0 (by rw [z]; exact s2)
    · rw [eq] at er
      cases er
      exact s3 (z2.symm.trans z)
  have hw : ∀ q, F.wl = some q → q.1 ≠ p := fun q eq z => by
    rcases w.h0 with h0 | ⟨r, er, z2⟩
    · exact h0 (by rw [← z]; exact (h.wel q eq).1)
    · exact (h.sw r er).2 q eq (z.trans z2)
  have hfree : p ∉ F.M0 → F.H0 p = none := fun h0 => (h.new p w.hp).resolve_left h0
  refine { len := h.len.trans hl.symm, val := fun i u e => ?_, own := fun i y e => ?_, dis := hd, nol := fun i y e => h.nol i y (hv i _ e), sub := h.sub, new := h.new, al := fun q hq => ?_, ext := fun b u e' => ?_, frm := fun q hq hq' u hu e' => ?_, tab := ⟨tabs_upd h.tab.1 w.e w.v, h.tab.2⟩, wel := fun q e' => ?_, anc := fun A hA => ⟨fun b u e' => ?_, (h.anc A hA).2⟩, sw := h.sw }
  · obtain ⟨u', h1, h2⟩ := h.val i u (hv i u e)
    refine ⟨u', h1, ?_⟩
    cases u with
    | ln x => exact absurd (hv i _ e) (h.nol i x)
    | d x =>
      show DV _ (hid M (upd H p o')) _ _
      rw [k]
      exact h2
    | wl => exact h2
    | fn => exact h2
    | al k => exact h2
    | xc x =>
      obtain ⟨a, cls, d, h3, h4, h5⟩ := h2
      exact ⟨a, cls, d, h3, h4, by rw [k]; exact h5⟩
  · obtain ⟨q, u, h1, h2, h3, h4, h5, h6⟩ := ho i y e
    refine ⟨q, u, h1, h2, h3, h4, by rw [k]; exact h5, fun C dx fs e => ?_⟩
    obtain ⟨a, b, c⟩ := h6 C dx fs e
    refine ⟨a, ?_, c⟩
    rw [upd_ne fun z => ?_]
    · exact b
    · rw [z, w.e] at b
      have := w.v
      rw [Option.some.inj b] at this
      cases this
  · by_cases z : q = p
    · rw [z]
      exact ⟨_, upd_same⟩
    · rw [upd_ne z]
      exact h.al q hq
  · obtain ⟨b1, b2⟩ := hid_some (h.ext b u e')
    refine hid_mk b1 ?_
    rw [upd_ne fun z => ?_]
    · exact b2
    · rw [z] at e' b1
      rw [hid_at b1, hfree b1] at e'
      cases e'
  · rw [upd_ne fun z => ?_]
    · exact h.frm q hq hq' u hu e'
    · rcases w.h0 with h0 | hs
      · exact h0 (by rw [← z]; exact hq)
      · exact hq' (.inr (by rw [z]; exact hs))
  · obtain ⟨h1, h2, h3, t, r, h4, h5⟩ := h.wel q e'
    exact ⟨h1, h2, by rw [k]; exact h3, t, r, by rw [upd_ne (hw q e')]; exact h4, h5⟩
  · obtain ⟨b1, b2⟩ := hid_some ((h.anc A hA).1 b u e')
    refine hid_mk b1 ?_
    rw [upd_ne fun z => ?_]
    · exact b2
    · rcases (h.anc A hA).2 p w.hp with q | q
      · exact b1 (by rw [z]; exact q)
      · rw [z] at e'
        have := (hid_some e').2
        rw [q] at this
        cases this
theorem kind_isObj {x y : D} (h : x.kind = y.kind) : x.isObj = y.isObj := by
  cases x <;> cases y <;> first | rfl | (simp only [D.kind] at h; omega) | cases h
theorem kind_tagOf {x y : D} (h : x.kind = y.kind) : x.tagOf = y.tagOf := by
  cases x <;> cases y <;> first | rfl | (simp only [D.kind] at h; first | omega | (obtain rfl := Nat.add_right_cancel h; rfl)) | cases h
/-- an object of its own is written -/
theorem Ok.write {i : Nat} {p : Addr} {o o' : HO} {x y : D} (h : Ok F M σ H δ n) (e : δ[i]? = some (some (S.own x))) (es : σ[i]? = some (some (.ref p))) (e2 : H p = some o) (hv : HV F.K (hid M H) o' y) (hd : ∀ C dx fs, o' = .ins C dx fs → ∃ C' fs', o = .ins C' dx fs') (hy : x.kind = y.kind) : Ok F M σ (upd H p o') (δ.set i (some (S.own y))) n := by
  obtain ⟨p', u, e1, hp, h0, e3, e4, e5⟩ := h.own i x e
  have ep : p' = p := by
    rw [es] at e1
    cases e1
    rfl
  subst ep
  have eu : u = o := Option.some.inj (e3.symm.trans e2)
  subst eu
  refine h.upd_ ⟨hp, h0.imp (fun z => z.1) fun ⟨q, a, b, _⟩ => ⟨q, a, b⟩, e2, e4⟩ (List.length_set ..) (fun j w e' => ?_) (fun j z e' => ?_) (fun j k a b q e1' e2' g1 g2 => ?_)
  · rcases set_cases e' with ⟨rfl, eq, hl⟩ | ⟨ne, e'⟩
    · cases eq
    · exact e'
  · rcases set_cases e' with ⟨rfl, eq, hl⟩ | ⟨ne, e'⟩
    · cases eq
      refine ⟨p', o', es, hp, h0.imp (fun z => ⟨z.1, (kind_isObj hy).symm.trans z.2.1, (kind_tagOf hy) ▸ z.2.2⟩) fun ⟨q, a, b, c⟩ => ⟨q, a, b, (kind_isObj hy).symm.trans c⟩, upd_same, hv, fun C dx fs eo => ?_⟩
      obtain ⟨C', fs', eo'⟩ := hd C dx fs eo
      exact e5 C' dx fs' eo'
    · obtain ⟨q, u', h1, h2, h3, h4, h5, h6⟩ := h.own j z e'
      have nq : q ≠ p' := fun z' => ne (h.dis i j _ _ p' e e' es (by rw [← z']; exact h1))
      exact ⟨q, u', h1, h2, h3, by rw [upd_ne nq]; exact h4, h5, h6⟩
  · have f : ∀ j a, (δ.set i (some (S.own y)))[j]? = some (some (S.own a)) → ∃ a', δ[j]? = some (some (S.own a')) := fun j a e' => by
      rcases set_cases e' with ⟨rfl, eq, hl⟩ | ⟨ne, e'⟩
      · exact ⟨x, e⟩
      · exact ⟨a, e'⟩
    obtain ⟨a', e1''⟩ := f j a e1'
    obtain ⟨b', e2''⟩ := f k b e2'
    exact h.dis _ _ _ _ _ e1'' e2'' g1 g2
/-- an object of its own is written no more -/
theorem Ok.frz {i : Nat} {p : Addr} {x : D} (h : Ok F M σ H δ n) (e : δ[i]? = some (some (S.own x))) (es : σ[i]? = some (some (.ref p))) (hx : x.isObj = false) : Ok F (M.filter (· != p)) σ H (δ.set i (some (S.v (.d x)))) n := by
  obtain ⟨p', o, e1, hp, h0, e2, e3, e4⟩ := h.own i x e
  have ep : p' = p := by
    rw [es] at e1
    cases e1
    rfl
  subst ep
  have h0 : p' ∉ F.M0 := (h0.resolve_right fun ⟨q, e, z, z2⟩ => by rw [hx] at z2; cases z2).1
  have m1 : ∀ q, q ∈ M.filter (· != p') → q ∈ M ∧ q ≠ p' := fun q hq => by simpa using hq
  have m2 : ∀ q, q ∈ M → q ≠ p' → q ∈ M.filter (· != p') := fun q hq hn => by simpa using ⟨hq, hn⟩
  have k : Same (hid M H) (hid (M.filter (· != p')) H) := hid_sub fun q hq => (m1 q hq).1
  refine { len := ?_, val := fun j u e' => ?_, own := fun j y e' => ?_, dis := fun j k' a b q e1' e2' g1 g2 => ?_, nol := fun j y e' => ?_, sub := fun q hq => m2 q (h.sub q hq) fun z => h0 (by rw [← z]; exact hq), new := fun q hq => h.new q (m1 q hq).1, al := fun q hq => h.al q (m1 q hq).1, ext := h.ext, frm := h.frm, tab := h.tab, wel := fun q e' => ?_, anc := fun A hA => ⟨(h.anc A hA).1, fun q hq => (h.anc A hA).2 q (m1 q hq).1⟩, sw := h.sw }
  · rw [List.length_set]
    exact h.len
  · rcases set_cases e' with ⟨rfl, eq, hl⟩ | ⟨ne, e'⟩
    · cases eq
      exact ⟨_, es, (e3.same k).dv (hid_mk (fun z => (m1 p' z).2 rfl) e2)⟩
    · obtain ⟨u', h1, h2⟩ := h.val j u e'
      refine ⟨u', h1, ?_⟩
      cases u with
      | ln y => exact absurd e' (h.nol j y)
      | d y => exact DV.same k h2
      | wl => exact h2
      | fn => exact h2
      | al k => exact h2
      | xc y =>
        obtain ⟨a, cls, d, h3, h4, h5⟩ := h2
        exact ⟨a, cls, d, h3, h4, h5.same k⟩
  · rcases set_cases e' with ⟨rfl, eq, hl⟩ | ⟨ne, e'⟩
    · cases eq
    · obtain ⟨q, u, h1, h2, h3, h4, h5, h6⟩ := h.own j y e'
      have nq : q ≠ p' := fun z => ne (h.dis i j _ _ p' e e' es (by rw [← z]; exact h1))
      refine ⟨q, u, h1, m2 q h2 nq, h3, h4, h5.same k, fun C dx fs eo => ?_⟩
      obtain ⟨a, b, c⟩ := h6 C dx fs eo
      refine ⟨m2 dx a fun z => ?_, b, c⟩
      rw [z, e2] at b
      rw [Option.some.inj b] at e3
      cases e3
  · rcases set_cases e1' with ⟨rfl, eq, hl⟩ | ⟨ne, e1'⟩
    · cases eq
    · rcases set_cases e2' with ⟨rfl, eq, hl'⟩ | ⟨ne', e2'⟩
      · cases eq
      · exact h.dis _ _ _ _ _ e1' e2' g1 g2
  · rcases set_cases e' with ⟨rfl, eq, hl⟩ | ⟨ne, e'⟩
    · cases eq
    · exact h.nol j y e'
  · obtain ⟨h1, h2, h3, t, r, h4, h5⟩ := h.wel q e'
    exact ⟨h1, h2, k _ _ h3, t, r, h4, h5⟩
/-- what a caller is told -/
structure RetB (F : Fc) (H' : Hp) (n' : Nat) : Prop where
  ext : Same (hid F.M0 F.H0) (hid F.M0 H')
  frm : ∀ p ∈ F.M0, ¬ F.wr p → ∀ o, (∀ ps, o ≠ HO.tbl ps) → F.H0 p = some o → H' p = some o
  tab : LamX.Tabs F.tb H'
  al : ∀ p ∈ F.M0, ∃ o, H' p = some o
  wel : ∀ p, F.wl = some p → WlAt (hid F.M0 H') H' n' p
theorem Ok.retB (h : Ok F M σ H δ n) : RetB F H n :=
  ⟨h.ext, h.frm, h.tab.1, fun p hp => h.al p (h.sub p hp), fun p e => let ⟨_, h2, h3, h4⟩ := h.wel p e; ⟨h2, hid_sub h.sub _ _ h3, h4⟩⟩
structure Ret (F : Fc) (H' : Hp) (n' : Nat) (v : V) (d : D) : Prop extends RetB F H' n' where
  val : DV F.K (hid F.M0 H') v d
theorem Ok.ret {v : V} {d : D} (h : Ok F M σ H δ n) (hv : DV F.K (hid M H) v d) : Ret F H n v d := ⟨h.retB, hv.same (hid_sub h.sub)⟩
end
end FL

/-! Expressions as functions of the slots. -/
namespace FL
open PySem PySem.Spec PyProof.Rows L2 Gd Fx Stp
abbrev ZF := Xn → Nat → Sl → Prop
/-- what a frame lets out of exceptions -/
def WZ (F : Fc) (Z : ZF) : WX := fun cls d σ H => ∃ M δ n x, Ok F M σ H δ n ∧ XnOk F.K (hid M H) cls d x ∧ Z x n δ
abbrev Lk (X : Cx) (F : Fc) (Z : ZF) : Prop := Takes X (WZ F Z)
abbrev R := T Xn
abbrev FE := Sl → R W
abbrev FA := Sl → R (List W)
abbrev FT := Sl → R Bool
def tE (F : Fc) (Z : ZF) (f : FE) : TE := fun σ H Q => ∃ M δ n, Ok F M σ H δ n ∧ (f δ).wp n (fun w n' => ∀ v H', Kp F M H H' → Ok F M σ H' δ n' → VOk F M H' v w → Q v H') (fun x n' => Z x n' δ)
def tA (F : Fc) (Z : ZF) (f : FA) : TA := fun σ H Q => ∃ M δ n, Ok F M σ H δ n ∧ (f δ).wp n (fun ws n' => ∀ vs H', Kp F M H H' → Ok F M σ H' δ n' → VOks F M H' vs ws → Q vs H') (fun x n' => Z x n' δ)
def tT (F : Fc) (Z : ZF) (f : FT) : TT := fun σ H Q => ∃ M δ n, Ok F M σ H δ n ∧ (f δ).wp n (fun b n' => ∀ H', Kp F M H H' → Ok F M σ H' δ n' → Q b H') (fun x n' => Z x n' δ)
structure PF (X : Cx) (F : Fc) (e : Expr) (f : FE) : Prop where
  pe : ∀ Z, Lk X F Z → PE X e (tE F Z f)
structure PFA (X : Cx) (F : Fc) (es : List Expr) (f : FA) : Prop where
  pa : ∀ Z, Lk X F Z → PA X es (tA F Z f)
structure PFT (X : Cx) (F : Fc) (e : Expr) (f : FT) : Prop where
  pt : ∀ Z, Lk X F Z → PT X e (tT F Z f)
structure PFW (X : Cx) (F : Fc) (e : Expr) (f : FT) : Prop where
  pw : ∀ Z, Lk X F Z → PW X e (tT F Z f)
theorem pt_to {X : Cx} {e : Expr} {t t' : TT} (h : PT X e t) (k : ∀ σ H Q, t' σ H Q → t σ H Q) : PT X e t' := ⟨fun pins s σ H Q I q => h.run pins s σ H Q I (k σ H Q q)⟩
theorem pw_to {X : Cx} {e : Expr} {t t' : TT} (h : PW X e t) (k : ∀ σ H Q, t' σ H Q → t σ H Q) : PW X e t' := ⟨fun wh pins s σ H Q I q => h.run wh pins s σ H Q I (k σ H Q q)⟩
theorem pa_to {X : Cx} {e : List Expr} {t t' : TA} (h : PA X e t) (k : ∀ σ H Q, t' σ H Q → t σ H Q) : PA X e t' := ⟨fun pos pins s σ H Q I q => h.run pos pins s σ H Q I (k σ H Q q)⟩
section
variable {F : Fc} {Z : ZF} {M : List Addr} {σ : L2.St} {H : Hp} {δ : Sl} {n : Nat}
theorem goE {f : FE} {A : W → Nat → Prop} {Q : VK} (ok : Ok F M σ H δ n) (q : (f δ).wp n A (fun x n' => Z x n' δ)) (k : ∀ w n' v H', A w n' → Kp F M H H' → Ok F M σ H' δ n' → VOk F M H' v w → Q v H') : tE F Z f σ H Q :=
  ⟨M, δ, n, ok, T.wp_mono (fun w n' a v H' k1 o1 v1 => k w n' v H' a k1 o1 v1) (fun _ _ z => z) _ _ q⟩
theorem goA {f : FA} {A : List W → Nat → Prop} {Q : List V → Hp → Prop} (ok : Ok F M σ H δ n) (q : (f δ).wp n A (fun x n' => Z x n' δ)) (k : ∀ ws n' vs H', A ws n' → Kp F M H H' → Ok F M σ H' δ n' → VOks F M H' vs ws → Q vs H') : tA F Z f σ H Q :=
  ⟨M, δ, n, ok, T.wp_mono (fun w n' a v H' k1 o1 v1 => k w n' v H' a k1 o1 v1) (fun _ _ z => z) _ _ q⟩
theorem goT {f : FT} {A : Bool → Nat → Prop} {Q : Bool → Hp → Prop} (ok : Ok F M σ H δ n) (q : (f δ).wp n A (fun x n' => Z x n' δ)) (k : ∀ b n' H', A b n' → Kp F M H H' → Ok F M σ H' δ n' → Q b H') : tT F Z f σ H Q :=
  ⟨M, δ, n, ok, T.wp_mono (fun b n' a H' k1 o1 => k b n' H' a k1 o1) (fun _ _ z => z) _ _ q⟩
end
/-! ### variables, constants -/
def W.rd : W → R D
  | .d x => .ret x
  | .ln x => .ret x
  | _ => .bad
def W.dat : W → R D
  | .d x => .ret x
  | _ => .bad
def W.isB : W → R Bool
  | .d (.bool b) => .ret b
  | _ => .bad
def rdL : List W → R (List D)
  | [] => .ret []
  | w :: ws => w.rd.bind fun x => (rdL ws).bind fun xs => .ret (x :: xs)
def datL : List W → R (List D)
  | [] => .ret []
  | w :: ws => w.dat.bind fun x => (datL ws).bind fun xs => .ret (x :: xs)
def D.shown : D → D
  | .tag _ ds => .list ds
  | x => x
theorem HV.shown {K : Kx} {G : Hp} {o : HO} {x : D} (h : HV K G o x) : HV K G o x.shown := by
  cases h with
  | lst h => exact .lst h
  | tag h => exact .lst h
  | dic h => exact .dic h
  | dit h => exact .dit h
  | obj h => exact .obj h
def fVar (i : Nat) : FE := fun δ => match δ[i]? with
  | some (some (.v w)) => .ret w
  | some (some (.own x)) => .ret (.ln x.shown)
  | _ => .bad
def fC (d : D) : FE := fun _ => .ret (.d d)
theorem pvv {X : Cx} (i : Nat) {x : Str} {pos : Pos} (hN : X.N[i]? = some x := by rfl) (hv : Vis X.env.scope x := by first | exact Or.inl rfl | exact Or.inr (Or.inl rfl) | exact Or.inr (Or.inr rfl)) (hd : (x == ("__debug__" : Str)) = false := by decide)
    (hcd : (x == ("__classdict__" : Str)) = false := by decide) : PE X (.Name x pos) (tVar i) := pe_var hN hv hd hcd
section
variable {X : Cx} {F : Fc}
theorem fv_of (i : Nat) {x : Str} {pos : Pos} (h : PE X (.Name x pos) (tVar i)) : PF X F (.Name x pos) (fVar i) := ⟨fun Z _ => pe_to h fun σ H Q ⟨M, δ, n, ok, q⟩ => by
  unfold fVar at q
  split at q
  · rename_i w e
    obtain ⟨v, e1, e2⟩ := ok.val i w e
    exact ⟨v, e1, q v H Kp.refl ok e2⟩
  · rename_i x e
    obtain ⟨p, o, e1, e2, e3, e4, e5, e6⟩ := ok.own i x e
    refine ⟨.ref p, e1, q _ H Kp.refl ok ⟨p, o, rfl, e2, fun r er z => ?_, e4, e5.shown⟩⟩
    rcases e3 with e3 | ⟨s, es, z2, _⟩
    · exact e3.1 (by rw [z]; exact (ok.wel r er).1)
    · exact (ok.sw s es).2 r er (z.symm.trans z2)
  · exact q.elim⟩
theorem fv (i : Nat) {x : Str} {pos : Pos} (hN : X.N[i]? = some x := by rfl) (hv : Vis X.env.scope x := by first | exact Or.inl rfl | exact Or.inr (Or.inl rfl) | exact Or.inr (Or.inr rfl)) (hd : (x == ("__debug__" : Str)) = false := by decide)
    (hcd : (x == ("__classdict__" : Str)) = false := by decide) : PF X F (.Name x pos) (fVar i) := fv_of i (pe_var hN hv hd hcd)
theorem pf_c {e : Expr} {v : V} {d : D} (h : PE X e (tC v)) (hv : ∀ G, DV F.K G v d) : PF X F e (fC d) :=
  ⟨fun Z _ => pe_to h fun σ H Q ⟨M, δ, n, ok, q⟩ => q v H Kp.refl ok (hv _)⟩
theorem fint {i : Int} {j pos} : PF X F (.Constant (.int i) j pos) (fC (.int i)) := pf_c pe_int fun _ => .int i
theorem fstr {x : Str} {j pos} : PF X F (.Constant (.str x) j pos) (fC (.str x)) := pf_c pe_str fun _ => .str x
theorem fnon {j pos} : PF X F (.Constant .none j pos) (fC .none) := pf_c pe_non fun _ => .non
theorem fbl {b : Bool} {j pos} : PF X F (.Constant (.bool b) j pos) (fC (.bool b)) := pf_c pe_bl fun _ => .bl b
theorem pf_glob {x : Str} {u : Value} {v : V} {d : D} {pos : Pos} (hg : Gl X x) (hm : X.mg x = some u) (r : RelV v u) (hv : ∀ G, DV F.K G v d) (hdb : (x == ("__debug__" : Str)) = false := by decide) : PF X F (.Name x pos) (fC d) := pf_c (pe_glob hg hm r hdb) hv
/-! ### lists of arguments -/
def fNil : FA := fun _ => .ret []
def fCons (f : FE) (g : FA) : FA := fun δ => (f δ).bind fun w => (g δ).bind fun ws => .ret (w :: ws)
theorem pfa_nil : PFA X F [] fNil := ⟨fun Z _ => pa_to pa_nil fun σ H Q ⟨M, δ, n, ok, q⟩ => q [] H Kp.refl ok .nil⟩
theorem pfa_cons {e : Expr} {es : List Expr} {f : FE} {g : FA} (h1 : PF X F e f) (h2 : PFA X F es g) (hs : starEach (e :: es) X.env = (false, eval e X.env) :: starEach es X.env := by rfl) : PFA X F (e :: es) (fCons f g) :=
  ⟨fun Z tk => pa_to (pa_cons (h1.pe Z tk) (h2.pa Z tk) hs) fun σ H Q ⟨M, δ, n, ok, q⟩ => goE ok ((T.wp_bind _ _).mp q) fun w n1 v H1 q1 s1 ok1 v1 => goA ok1 ((T.wp_bind _ _).mp q1) fun ws n2 vs H2 q2 s2 ok2 v2 =>
    q2 (v :: vs) H2 (s1.trans s2) ok2 (.cons (v1.kp s2) v2)⟩
/-! ### what may be read -/
inductive RV (K : Kx) (M : List Addr) (H : Hp) : V → D → Prop
  | dat {v : V} {x : D} : DV K (hid M H) v x → RV K M H v x
  | ln {p : Addr} {o : HO} {x : D} : H p = some o → HV K (hid M H) o x → RV K M H (.ref p) x
inductive RVs (K : Kx) (M : List Addr) (H : Hp) : List V → List D → Prop
  | nil : RVs K M H [] []
  | cons {v : V} {vs : List V} {d : D} {ds : List D} : RV K M H v d → RVs K M H vs ds → RVs K M H (v :: vs) (d :: ds)
section
variable {K : Kx} {M : List Addr} {H H' : Hp} {v : V}
theorem RV.none (h : RV K M H v .none) : v = .non := by
  cases h with
  | dat h => cases h; rfl
  | ln e h => cases h
theorem RV.bool {b : Bool} (h : RV K M H v (.bool b)) : v = .bl b := by
  cases h with
  | dat h => cases h; rfl
  | ln e h => cases h
theorem RV.int {i : Int} (h : RV K M H v (.int i)) : v = .int i := by
  cases h with
  | dat h => cases h; rfl
  | ln e h => cases h
theorem RV.str {x : Str} (h : RV K M H v (.str x)) : v = .str x := by
  cases h with
  | dat h => cases h; rfl
  | ln e h => cases h
theorem RV.list {ds : List D} (h : RV K M H v (.list ds)) : ∃ a vs, v = .ref a ∧ H a = some (.lst vs) ∧ DVs K (hid M H) vs ds := by
  cases h with
  | dat h =>
    cases h with
    | lst h1 h2 => exact ⟨_, _, rfl, hid_to _ _ h1, h2⟩
  | ln e h =>
    cases h with
    | lst h => exact ⟨_, _, rfl, e, h⟩
theorem RV.tuple {ds : List D} (h : RV K M H v (.tuple ds)) : ∃ a vs, v = .ref a ∧ SqT K.K H a vs ∧ DVs K (hid M H) vs ds ∧ DV K (hid M H) v (.tuple ds) := by
  cases h with
  | dat h =>
    have h' := h
    cases h with
    | tup h1 h2 => exact ⟨_, _, rfl, seqT hid_to h1, h2, h'⟩
  | ln e h => cases h
theorem RV.obj {c : Nat} {gs : List (Str × D)} (h : RV K M H v (.obj c gs)) : ∃ a dx fs, v = .ref a ∧ H a = some (.ins (K.ct c) dx fs) ∧ DVf K (hid M H) fs gs := by
  cases h with
  | dat h =>
    cases h with
    | obj h1 h2 => exact ⟨_, _, _, rfl, hid_to _ _ h1, h2⟩
  | ln e h =>
    cases h with
    | obj h => exact ⟨_, _, _, rfl, e, h⟩
theorem RV.dict {es : List (D × D)} (h : RV K M H v (.dict es)) : ∃ a kvs, v = .ref a ∧ H a = some (.dK kvs) ∧ DVk K (hid M H) kvs es := by
  cases h with
  | dat h =>
    cases h with
    | dic h1 h2 => exact ⟨_, _, rfl, hid_to _ _ h1, h2⟩
  | ln e h =>
    cases h with
    | dic h => exact ⟨_, _, rfl, e, h⟩
theorem RV.dicT {es : List (D × D)} (h : RV K M H v (.dicT es)) : ∃ a kvs, v = .ref a ∧ H a = some (.dT kvs) ∧ DVt K (hid M H) kvs es := by
  cases h with
  | dat h =>
    cases h with
    | dit h1 h2 => exact ⟨_, _, rfl, hid_to _ _ h1, h2⟩
  | ln e h =>
    cases h with
    | dit h => exact ⟨_, _, rfl, e, h⟩
/-- data at any depth, read at the whole heap -/
theorem RV.dp (h : RV K M H v x) (e : x.flat = true) : Dp K.K H v x.py := by
  cases h with
  | dat h => exact (h.same hid_to).dp _ e
  | ln e1 h =>
    cases h with
    | lst h => exact .lst (SqL.of e1) ((h.same hid_to).dp _ e)
    | dic h => cases e
    | dit h => cases e
    | obj h => cases e
    | tag h => cases e
theorem RV.tag {k : Nat} {ds : List D} (h : RV K M H v (.tag k ds)) : ∃ a vs, v = .ref a ∧ H a = some (.lst vs) := by
  cases h with
  | dat h =>
    cases h with
    | tag h1 h2 => exact ⟨_, _, rfl, hid_to _ _ h1⟩
  | ln e h =>
    cases h with
    | tag h => exact ⟨_, _, rfl, e⟩
end
theorem rv_rd {F : Fc} {M : List Addr} {H : Hp} {v : V} {w : W} {n : Nat} {Q : D → Nat → Prop} {Z : Xn → Nat → Prop} (h : VOk F M H v w) (q : w.rd.wp n Q Z) : ∃ x, RV F.K M H v x ∧ Q x n := by
  cases w with
  | d x => exact ⟨x, .dat h, q⟩
  | ln x =>
    obtain ⟨p, o, rfl, h1, h2, h3, h4⟩ := h
    exact ⟨x, .ln h3 h4, q⟩
  | _ => exact q.elim
theorem dv_dat {F : Fc} {M : List Addr} {H : Hp} {v : V} {w : W} {n : Nat} {Q : D → Nat → Prop} {Z : Xn → Nat → Prop} (h : VOk F M H v w) (q : w.dat.wp n Q Z) : ∃ x, w = .d x ∧ DV F.K (hid M H) v x ∧ Q x n := by
  cases w with
  | d x => exact ⟨x, rfl, h, q⟩
  | _ => exact q.elim
theorem rvs_rd {F : Fc} {M : List Addr} {H : Hp} {n : Nat} {Z : Xn → Nat → Prop} : ∀ {vs : List V} {ws : List W} {Q : List D → Nat → Prop}, VOks F M H vs ws → (rdL ws).wp n Q Z → ∃ xs, RVs F.K M H vs xs ∧ Q xs n
  | _, _, Q, .nil, q => ⟨[], .nil, q⟩
  | _, _, Q, .cons h t, q => by
    obtain ⟨x, h1, q⟩ := rv_rd h ((T.wp_bind _ _).mp q)
    obtain ⟨xs, h2, q⟩ := rvs_rd t ((T.wp_bind _ _).mp q)
    exact ⟨x :: xs, .cons h1 h2, q⟩
theorem dvs_dat {F : Fc} {M : List Addr} {H : Hp} {n : Nat} {Z : Xn → Nat → Prop} : ∀ {vs : List V} {ws : List W} {Q : List D → Nat → Prop}, VOks F M H vs ws → (datL ws).wp n Q Z → ∃ xs, DVs F.K (hid M H) vs xs ∧ Q xs n
  | _, _, Q, .nil, q => ⟨[], .nil, q⟩
  | _, _, Q, .cons h t, q => by
    obtain ⟨x, e, h1, q⟩ := dv_dat h ((T.wp_bind _ _).mp q)
    obtain ⟨xs, h2, q⟩ := dvs_dat t ((T.wp_bind _ _).mp q)
    exact ⟨x :: xs, .cons h1 h2, q⟩
/-! ### displays -/
def small (ds : List D) : R Unit := if ds.length ≤ 1000000 then .ret () else .bad
theorem small_wp {ds : List D} {n : Nat} {Q : Unit → Nat → Prop} {Z : Xn → Nat → Prop} (h : (small ds).wp n Q Z) : ds.length ≤ 1000000 ∧ Q () n := by
  unfold small at h
  split at h
  · rename_i l
    exact ⟨l, h⟩
  · exact h.elim
def fSeq (mk : List D → D) (f : FA) : FE := fun δ => (f δ).bind fun ws => (datL ws).bind fun ds => (small ds).bind fun _ => .ret (.d (mk ds))
theorem pf_lst {es : List Expr} {f : FA} {pos : Pos} (h : PFA X F es f) : PF X F (.List es pos) (fSeq .list f) :=
  ⟨fun Z tk => pe_to (pe_lstN (h.pa Z tk)) fun σ H Q ⟨M, δ, n, ok, q⟩ => goA ok ((T.wp_bind _ _).mp q) fun ws n1 vs H1 q1 s1 ok1 v1 => by
    obtain ⟨ds, hv, q2⟩ := dvs_dat v1 ((T.wp_bind _ _).mp q1)
    obtain ⟨l, q3⟩ := small_wp ((T.wp_bind _ _).mp q2)
    exact ⟨by rw [hv.length]; exact l, fun p H' np s e => q3 _ _ (s1.trans (Kp.of s)) (ok1.same s) (.lst (hid_mk (ok1.fresh np) e) (hv.same (hid_same s)))⟩⟩
theorem pf_tup {es : List Expr} {f : FA} {pos : Pos} {x1} (h : PFA X F es f) : PF X F (.Tuple es x1 pos) (fSeq .tuple f) :=
  ⟨fun Z tk => pe_to (pe_tupN (h.pa Z tk)) fun σ H Q ⟨M, δ, n, ok, q⟩ => goA ok ((T.wp_bind _ _).mp q) fun ws n1 vs H1 q1 s1 ok1 v1 => by
    obtain ⟨ds, hv, q2⟩ := dvs_dat v1 ((T.wp_bind _ _).mp q1)
    obtain ⟨l, q3⟩ := small_wp ((T.wp_bind _ _).mp q2)
    exact ⟨by rw [hv.length]; exact l, fun p H' np s e => q3 _ _ (s1.trans (Kp.of s)) (ok1.same s) (.tup (SqT.of (hid_mk (ok1.fresh np) e)) (hv.same (hid_same s)))⟩⟩
/-! ### two-place operations -/
/-- f does g to data -/
def OpF (X : Cx) (K : Kx) (f : Value → Value → Sem Value) (g : D → D → Option D) : Prop := X.K = K.K → ∃ r : R2, OpR X f r ∧ ∀ (M : List Addr) (H : Hp) (v u : V) (a b c : D) (Q : VK), (∀ p, H p = none → p ∉ M) → RV K M H v a → RV K M H u b →
  g a b = some c → (∀ w H', Same H H' → DV K (hid M H') w c → Q w H') → r v u H Q
theorem RV.kp {K : Kx} {F : Fc} {M : List Addr} {H H' : Hp} {v : V} {w : W} {x : D} (hK : F.K = K) (k : Kp F M H H') (h : VOk F M H v w) (e : w = .d x ∨ w = .ln x) : RV K M H' v x := by
  subst hK
  rcases e with rfl | rfl
  · exact .dat (VOk.kp k h)
  · obtain ⟨p, o, rfl, h1, h2, h3, h4⟩ := VOk.kp k h
    exact .ln h3 h4
theorem rd_cases {w : W} {n : Nat} {Q : D → Nat → Prop} {Z : Xn → Nat → Prop} (q : w.rd.wp n Q Z) : ∃ x, (w = .d x ∨ w = .ln x) ∧ Q x n := by
  cases w with
  | d x => exact ⟨x, .inl rfl, q⟩
  | ln x => exact ⟨x, .inr rfl, q⟩
  | _ => exact q.elim
def fOp (g : D → D → Option D) (f1 f2 : FE) : FE := fun δ => (f1 δ).bind fun a => (f2 δ).bind fun b => a.rd.bind fun x => b.rd.bind fun y => (T.of (g x y)).bind fun z => .ret (.d z)
theorem fop_to {g : D → D → Option D} {f1 f2 : FE} {r : R2} {Z : ZF}
    (hr : ∀ (M : List Addr) (H : Hp) (v u : V) (a b c : D) (Q : VK), (∀ p, H p = none → p ∉ M) → RV F.K M H v a → RV F.K M H u b → g a b = some c → (∀ w H', Same H H' → DV F.K (hid M H') w c → Q w H') → r v u H Q) :
    ∀ σ H Q, tE F Z (fOp g f1 f2) σ H Q → tOp r (tE F Z f1) (tE F Z f2) σ H Q := fun σ H Q ⟨M, δ, n, ok, q⟩ =>
  goE ok ((T.wp_bind _ _).mp q) fun a n1 v H1 q1 s1 ok1 v1 => goE ok1 ((T.wp_bind _ _).mp q1) fun b n2 u H2 q2 s2 ok2 v2 => by
    obtain ⟨x, ex, q3⟩ := rd_cases ((T.wp_bind _ _).mp q2)
    obtain ⟨y, ey, q4⟩ := rd_cases ((T.wp_bind _ _).mp q3)
    obtain ⟨z, ez, q5⟩ := T.wp_of.mp ((T.wp_bind _ _).mp q4)
    exact hr M H2 v u x y z Q (fun p hp => ok2.fresh hp) (RV.kp rfl s2 v1 ex) (RV.kp rfl Kp.refl v2 ey) ez fun w H' s d => q5 w H' (s1.trans (s2.trans (Kp.of s))) (ok2.same s) d
theorem pf_op {op : Operator} {a b : Expr} {g : D → D → Option D} {f1 f2 : FE} {pos : Pos} (ho : OpF X F.K (binaryOp op) g) (ha : PF X F a f1) (hb : PF X F b f2) (hK : X.K = F.K.K := by rfl) : PF X F (.BinOp a op b pos) (fOp g f1 f2) := by
  obtain ⟨r, h1, h2⟩ := ho hK
  exact ⟨fun Z tk => pe_to (pe_op h1 (ha.pe Z tk) (hb.pe Z tk)) (fop_to h2)⟩
theorem pf_cmp {op : CmpOp} {a b : Expr} {g : D → D → Option D} {f1 f2 : FE} {pos : Pos} (ho : OpF X F.K (compareOp op) g) (ha : PF X F a f1) (hb : PF X F b f2) (hm : behindInMarks op b = false) (hK : X.K = F.K.K := by rfl) : PF X F (.Compare a [op] [b] pos) (fOp g f1 f2) := by
  obtain ⟨r, h1, h2⟩ := ho hK
  exact ⟨fun Z tk => pe_to (pe_cmpR h1 (ha.pe Z tk) (hb.pe Z tk) hm) (fop_to h2)⟩
/-- a value that is a bool, as a test -/
def fVal (f : FE) : FT := fun δ => (f δ).bind fun w => w.isB
theorem isB_cases {w : W} {n : Nat} {Q : Bool → Nat → Prop} {Z : Xn → Nat → Prop} (q : w.isB.wp n Q Z) : ∃ b, w = .d (.bool b) ∧ Q b n := by
  cases w with
  | d x =>
    cases x with
    | bool b => exact ⟨b, rfl, q⟩
    | _ => exact q.elim
  | _ => exact q.elim
theorem val_to {f : FE} {Z : ZF} {M : List Addr} {σ : L2.St} {H : Hp} {δ : Sl} {n : Nat} {Q : Bool → Hp → Prop} (ok : Ok F M σ H δ n) (q : (fVal f δ).wp n (fun b n' => ∀ H', Kp F M H H' → Ok F M σ H' δ n' → Q b H') (fun x n' => Z x n' δ)) :
    tE F Z f σ H (fun v H' => ∃ b, v = .bl b ∧ Q b H') := goE ok ((T.wp_bind _ _).mp q) fun w n1 v H1 q1 s1 ok1 v1 => by
  obtain ⟨b, rfl, q2⟩ := isB_cases q1
  cases v1
  exact ⟨b, rfl, q2 H1 s1 ok1⟩
theorem pft_cmp {op : CmpOp} {a b : Expr} {g : D → D → Option D} {f1 f2 : FE} {pos : Pos} (ho : OpF X F.K (compareOp op) g) (ha : PF X F a f1) (hb : PF X F b f2) (hm : behindInMarks op b = false) (hK : X.K = F.K.K := by rfl) : PFT X F (.Compare a [op] [b] pos) (fVal (fOp g f1 f2)) := by
  obtain ⟨r, h1, h2⟩ := ho hK
  exact ⟨fun Z tk => pt_to (pt_cmpR h1 (ha.pe Z tk) (hb.pe Z tk) hm) fun σ H Q ⟨M, δ, n, ok, q⟩ => fop_to h2 σ H _ (val_to ok q)⟩
theorem pft_val {e : Expr} {f : FE} (h : PF X F e f) (he : ∀ whole, isTrue e X.env whole = (do let v ← whole; standAt e.pos; holding [v] (truthy v)) := by intro _; rfl) : PFT X F e (fVal f) :=
  ⟨fun Z tk => pt_to (pt_val (h.pe Z tk) he) fun σ H Q ⟨M, δ, n, ok, q⟩ => val_to ok q⟩
/-! ### and, or, not, choices, chains -/
def fAnd (t u : FT) : FT := fun δ => (t δ).bind fun c => if c = true then u δ else .ret false
def fOr (t u : FT) : FT := fun δ => (t δ).bind fun c => if c = true then .ret true else u δ
def fNot (t : FT) : FT := fun δ => (t δ).bind fun c => .ret (!c)
def fAndV (a b : FE) : FE := fun δ => (a δ).bind fun w => w.isB.bind fun c => if c = true then b δ else .ret (.d (.bool false))
def fOrV (a b : FE) : FE := fun δ => (a δ).bind fun w => w.isB.bind fun c => if c = true then .ret (.d (.bool true)) else b δ
def fNotV (a : FE) : FE := fun δ => (a δ).bind fun w => w.isB.bind fun c => .ret (.d (.bool (!c)))
def fIfE (t : FT) (a b : FE) : FE := fun δ => (t δ).bind fun c => if c = true then a δ else b δ
theorem iteMono {c : Prop} [Decidable c] {A B A' B' : Prop} (h1 : A → A') (h2 : B → B') (h : if c then A else B) : if c then A' else B' := by
  by_cases e : c
  · rw [if_pos e] at h ⊢
    exact h1 h
  · rw [if_neg e] at h ⊢
    exact h2 h
theorem wp_ite {ε α : Type} {c : Prop} [Decidable c] {a b : T ε α} {n : Nat} {Q : α → Nat → Prop} {Z : ε → Nat → Prop} : (if c then a else b).wp n Q Z ↔ if c then a.wp n Q Z else b.wp n Q Z := by
  by_cases e : c
  · rw [if_pos e, if_pos e]
  · rw [if_neg e, if_neg e]
variable {a b c : Expr} {rest : List Expr} {pos : Pos} {t u : FT} {f g h : FE}
theorem pfw_and1 (ha : PFT X F a t) : PFW X F (.BoolOp .And [a] pos) t := ⟨fun Z tk => pw_and1 (ha.pt Z tk)⟩
theorem pfw_or1 (ha : PFT X F a t) : PFW X F (.BoolOp .Or [a] pos) t := ⟨fun Z tk => pw_or1 (ha.pt Z tk)⟩
theorem pfw_and (ha : PFT X F a t) (hb : PFW X F (.BoolOp .And (b :: rest) pos) u) : PFW X F (.BoolOp .And (a :: b :: rest) pos) (fAnd t u) :=
  ⟨fun Z tk => pw_to (pw_and (ha.pt Z tk) (hb.pw Z tk)) fun σ H Q ⟨M, δ, n, ok, q⟩ => goT ok ((T.wp_bind _ _).mp q) fun c n1 H1 q1 s1 ok1 => iteMono (fun q2 => goT ok1 q2 fun c n2 H2 q3 s2 ok2 => q3 H2 (s1.trans s2) ok2) (fun q2 => q2 H1 s1 ok1) (wp_ite.mp q1)⟩
theorem pfw_or (ha : PFT X F a t) (hb : PFW X F (.BoolOp .Or (b :: rest) pos) u) : PFW X F (.BoolOp .Or (a :: b :: rest) pos) (fOr t u) :=
  ⟨fun Z tk => pw_to (pw_or (ha.pt Z tk) (hb.pw Z tk)) fun σ H Q ⟨M, δ, n, ok, q⟩ => goT ok ((T.wp_bind _ _).mp q) fun c n1 H1 q1 s1 ok1 => iteMono (fun q2 => q2 H1 s1 ok1) (fun q2 => goT ok1 q2 fun c n2 H2 q3 s2 ok2 => q3 H2 (s1.trans s2) ok2) (wp_ite.mp q1)⟩
theorem pfw_t (h : PFW X F a t) : PFT X F a t := ⟨fun Z tk => (h.pw Z tk).pt⟩
theorem pft_not (ha : PFT X F a t) : PFT X F (.UnaryOp .Not a pos) (fNot t) := ⟨fun Z tk => pt_to (pt_not (ha.pt Z tk)) fun σ H Q ⟨M, δ, n, ok, q⟩ => goT ok ((T.wp_bind _ _).mp q) fun c n1 H1 q1 s1 ok1 => q1 H1 s1 ok1⟩
theorem pf_one {op : BoolOp} (h : PF X F a f) : PF X F (.BoolOp op [a] pos) f := ⟨fun Z tk => pe_one (h.pe Z tk)⟩
theorem pf_and (ha : PF X F a f) (hb : PF X F (.BoolOp .And (b :: rest) pos) g) : PF X F (.BoolOp .And (a :: b :: rest) pos) (fAndV f g) :=
  ⟨fun Z tk => pe_to (pe_and (ha.pe Z tk) (hb.pe Z tk)) fun σ H Q ⟨M, δ, n, ok, q⟩ => goE ok ((T.wp_bind _ _).mp q) fun w n1 v H1 q1 s1 ok1 v1 => by
    obtain ⟨c, rfl, q2⟩ := isB_cases ((T.wp_bind _ _).mp q1)
    cases v1
    exact ⟨c, rfl, iteMono (fun q2 => goE ok1 q2 fun w n2 v H2 q3 s2 ok2 v2 => q3 v H2 (s1.trans s2) ok2 v2) (fun q2 => q2 _ H1 s1 ok1 (.bl _)) (wp_ite.mp q2)⟩⟩
theorem pf_or (ha : PF X F a f) (hb : PF X F (.BoolOp .Or (b :: rest) pos) g) : PF X F (.BoolOp .Or (a :: b :: rest) pos) (fOrV f g) :=
  ⟨fun Z tk => pe_to (pe_or (ha.pe Z tk) (hb.pe Z tk)) fun σ H Q ⟨M, δ, n, ok, q⟩ => goE ok ((T.wp_bind _ _).mp q) fun w n1 v H1 q1 s1 ok1 v1 => by
    obtain ⟨c, rfl, q2⟩ := isB_cases ((T.wp_bind _ _).mp q1)
    cases v1
    exact ⟨c, rfl, iteMono (fun q2 => q2 _ H1 s1 ok1 (.bl _)) (fun q2 => goE ok1 q2 fun w n2 v H2 q3 s2 ok2 v2 => q3 v H2 (s1.trans s2) ok2 v2) (wp_ite.mp q2)⟩⟩
theorem pf_not (ha : PF X F a f) : PF X F (.UnaryOp .Not a pos) (fNotV f) :=
  ⟨fun Z tk => pe_to (pe_not (ha.pe Z tk)) fun σ H Q ⟨M, δ, n, ok, q⟩ => goE ok ((T.wp_bind _ _).mp q) fun w n1 v H1 q1 s1 ok1 v1 => by
    obtain ⟨c, rfl, q2⟩ := isB_cases ((T.wp_bind _ _).mp q1)
    cases v1
    exact ⟨c, rfl, q2 _ H1 s1 ok1 (.bl _)⟩⟩
theorem pf_if (hc : PFT X F c t) (ha : PF X F a f) (hb : PF X F b g) : PF X F (.IfExp c a b pos) (fIfE t f g) :=
  ⟨fun Z tk => pe_to (pe_ifExp (hc.pt Z tk) (ha.pe Z tk) (hb.pe Z tk)) fun σ H Q ⟨M, δ, n, ok, q⟩ => goT ok ((T.wp_bind _ _).mp q) fun c n1 H1 q1 s1 ok1 =>
    iteMono (fun q2 => goE ok1 q2 fun w n2 v H2 q3 s2 ok2 v2 => q3 v H2 (s1.trans s2) ok2 v2) (fun q2 => goE ok1 q2 fun w n2 v H2 q3 s2 ok2 v2 => q3 v H2 (s1.trans s2) ok2 v2) (wp_ite.mp q1)⟩
def boolOf : Option D → R Bool
  | some (.bool b) => .ret b
  | _ => .bad
theorem boolOf_cases {o : Option D} {n : Nat} {Q : Bool → Nat → Prop} {Z : Xn → Nat → Prop} (q : (boolOf o).wp n Q Z) : ∃ b, o = some (.bool b) ∧ Q b n := by
  match o, q with
  | some (.bool b), q => exact ⟨b, rfl, q⟩
/-- a < b < c -/
def fChn (r r' : D → D → Option D) (f g h : FE) : FE := fun δ => (f δ).bind fun a => (g δ).bind fun b => a.rd.bind fun x => b.rd.bind fun y => (boolOf (r x y)).bind fun k =>
  if k = true then (h δ).bind fun c => c.rd.bind fun z => (T.of (r' y z)).bind fun d => .ret (.d d) else .ret (.d (.bool false))
theorem chn_to {r r' : D → D → Option D} {Rr Rr' : R2} {Z : ZF}
    (h1 : ∀ (M : List Addr) (H : Hp) (v u : V) (a b c : D) (Q : VK), (∀ p, H p = none → p ∉ M) → RV F.K M H v a → RV F.K M H u b → r a b = some c → (∀ w H', Same H H' → DV F.K (hid M H') w c → Q w H') → Rr v u H Q)
    (h2 : ∀ (M : List Addr) (H : Hp) (v u : V) (a b c : D) (Q : VK), (∀ p, H p = none → p ∉ M) → RV F.K M H v a → RV F.K M H u b → r' a b = some c → (∀ w H', Same H H' → DV F.K (hid M H') w c → Q w H') → Rr' v u H Q) :
    ∀ σ H Q, tE F Z (fChn r r' f g h) σ H Q → tChain Rr Rr' (tE F Z f) (tE F Z g) (tE F Z h) σ H Q := fun σ H Q ⟨M, δ, n, ok, q⟩ =>
  goE ok ((T.wp_bind _ _).mp q) fun a n1 v H1 q1 s1 ok1 v1 => goE ok1 ((T.wp_bind _ _).mp q1) fun b n2 u H2 q2 s2 ok2 v2 => by
    obtain ⟨x, ex, q3⟩ := rd_cases ((T.wp_bind _ _).mp q2)
    obtain ⟨y, ey, q4⟩ := rd_cases ((T.wp_bind _ _).mp q3)
    obtain ⟨k, ek, q5⟩ := boolOf_cases ((T.wp_bind _ _).mp q4)
    refine h1 M H2 v u x y _ _ (fun p hp => ok2.fresh hp) (RV.kp rfl s2 v1 ex) (RV.kp rfl Kp.refl v2 ey) ek fun w H3 s3 d3 => ?_
    cases d3
    refine ⟨k, rfl, iteMono (fun q6 => ?_) (fun q6 => q6 _ H3 (s1.trans (s2.trans (Kp.of s3))) (ok2.same s3) (.bl _)) (wp_ite.mp q5)⟩
    refine goE (ok2.same s3) ((T.wp_bind _ _).mp q6) fun c n3 w4 H4 q7 s4 ok4 v4 => ?_
    obtain ⟨z, ez, q8⟩ := rd_cases ((T.wp_bind _ _).mp q7)
    obtain ⟨d, ed, q9⟩ := T.wp_of.mp ((T.wp_bind _ _).mp q8)
    exact h2 M H4 u w4 y z d Q (fun p hp => ok4.fresh hp) (RV.kp rfl ((Kp.of s3).trans s4) v2 ey) (RV.kp rfl Kp.refl v4 ez) ed fun w H5 s5 d5 => q9 w H5 (s1.trans (s2.trans ((Kp.of s3).trans (s4.trans (Kp.of s5))))) (ok4.same s5) d5
theorem pf_chain {op op' : CmpOp} {r r' : D → D → Option D} (ho : OpF X F.K (compareOp op) r) (ho' : OpF X F.K (compareOp op') r') (ha : PF X F a f) (hb : PF X F b g) (hc : PF X F c h) (hK : X.K = F.K.K := by rfl)
    (hm : lastMarks [op, op'] [b, c] = false := by with_unfolding_all rfl) : PF X F (.Compare a [op, op'] [b, c] pos) (fChn r r' f g h) := by
  obtain ⟨R1, a1, a2⟩ := ho hK
  obtain ⟨R2, b1, b2⟩ := ho' hK
  exact ⟨fun Z tk => pe_to (pe_chain a1 b1 (ha.pe Z tk) (hb.pe Z tk) (hc.pe Z tk) hm) (chn_to a2 b2)⟩
theorem pft_chain {op op' : CmpOp} {r r' : D → D → Option D} (ho : OpF X F.K (compareOp op) r) (ho' : OpF X F.K (compareOp op') r') (ha : PF X F a f) (hb : PF X F b g) (hc : PF X F c h) (hK : X.K = F.K.K := by rfl)
    (hm : lastMarks [op, op'] [b, c] = false := by with_unfolding_all rfl) : PFT X F (.Compare a [op, op'] [b, c] pos) (fVal (fChn r r' f g h)) := by
  obtain ⟨R1, a1, a2⟩ := ho hK
  obtain ⟨R2, b1, b2⟩ := ho' hK
  exact ⟨fun Z tk => pt_to (pt_chain a1 b1 (ha.pe Z tk) (hb.pe Z tk) (hc.pe Z tk) hm) fun σ H Q ⟨M, δ, n, ok, q⟩ => chn_to a2 b2 σ H _ (val_to ok q)⟩
end
end FL

/-! Operations on data. -/
namespace FL
open PySem PySem.Spec PyProof.Rows L2 Gd Fx Stp
def wide (i : Int) : Bool := decide (i.natAbs.log2 < 8000)
def dAdd : D → D → Option D
  | .int i, .int j => some (.int (i + j))
  | .str x, .str y => if x.length + y.length ≤ 1000000 then some (.str (x ++ y)) else none
  | .list xs, .list ys => if xs.length + ys.length ≤ 1000000 then some (.list (xs ++ ys)) else none
  | .tuple xs, .tuple ys => if xs.length + ys.length ≤ 1000000 then some (.tuple (xs ++ ys)) else none
  | _, _ => none
def dSub : D → D → Option D
  | .int i, .int j => some (.int (i - j))
  | _, _ => none
def dMul : D → D → Option D
  | .int i, .int j => if wide i = true ∧ wide j = true then some (.int (i * j)) else none
  | .list xs, .int k => if 0 ≤ k ∧ k ≤ 1000 ∧ xs.length ≤ 1000 then some (.list (List.replicate k.toNat xs).flatten) else none
  | .tuple xs, .int k => if xs ≠ [] ∧ 0 ≤ k ∧ k ≤ 1000 ∧ xs.length ≤ 1000 then some (.tuple (List.replicate k.toNat xs).flatten) else none
  | _, _ => none
def dFdiv : D → D → Option D
  | .int i, .int j => if j ≠ 0 ∧ wide j = true then some (.int (i.fdiv j)) else none
  | _, _ => none
def dMod : D → D → Option D
  | .int i, .int j => if j ≠ 0 then some (.int (i.fmod j)) else none
  | _, _ => none
def dPow : D → D → Option D
  | .int i, .int j => if 0 ≤ j ∧ j ≤ 1000000 ∧ i.natAbs < 2 ^ 64 then some (.int (i ^ j.toNat)) else none
  | _, _ => none
def dCmp (f : Int → Int → Bool) (g : Str → Str → Bool) : D → D → Option D
  | .int i, .int j => some (.bool (f i j))
  | .str x, .str y => some (.bool (g x y))
  | _, _ => none
def dLt := dCmp (fun i j => decide (i < j)) fun x y => decide (x.cps.toList < y.cps.toList)
def dLe := dCmp (fun i j => decide (i ≤ j)) fun x y => !decide (y.cps.toList < x.cps.toList)
def dGt := dCmp (fun i j => decide (j < i)) fun x y => decide (y.cps.toList < x.cps.toList)
def dGe := dCmp (fun i j => decide (j ≤ i)) fun x y => !decide (x.cps.toList < y.cps.toList)
def okEq (a : D) : Bool := a.flat && SeqAt.shaped a.py
def eqv (a b : D) : Bool := PyData.eqv a.py b.py
def isStr : D → Bool
  | .str _ => true
  | _ => false
def okE (a b : D) : Bool := (isStr a && isStr b) || (okEq a && okEq b)
def dEq (a b : D) : Option D := if okE a b = true then some (.bool (eqv a b)) else none
def dNe (a b : D) : Option D := if okE a b = true then some (.bool (!eqv a b)) else none
theorem okE_cases {a b : D} (h : okE a b = true) : (∃ x y, a = .str x ∧ b = .str y) ∨ (okEq a = true ∧ okEq b = true) := by
  unfold okE at h
  rw [Bool.or_eq_true] at h
  rcases h with h | h
  · cases a <;> cases b <;> first | (exact .inl ⟨_, _, rfl, rfl⟩) | (cases h)
  · exact .inr (Bool.and_eq_true_iff.mp h)
def isAny : D → Bool
  | .any => true
  | _ => false
def isNone : D → Bool
  | .none => true
  | _ => false
def dIsNot : D → D → Option D
  | a, .none => if isAny a = false then some (.bool (!isNone a)) else none
  | _, _ => none
def dIs : D → D → Option D
  | a, .none => if isAny a = false then some (.bool (isNone a)) else none
  | _, _ => none
def dIn : D → D → Option D
  | .str x, .str y => (match x.cps.toList with
    | [c] => some (.bool (decide (c ∈ y.cps.toList)))
    | _ => none)
  | a, .list ds => if okEq a = true ∧ okEq (.list ds) = true then some (.bool (ds.any fun z => eqv z a)) else none
  | a, .tuple ds => if okEq a = true ∧ okEq (.tuple ds) = true then some (.bool (ds.any fun z => eqv z a)) else none
  | _, _ => none
def notD : Option D → Option D
  | some (.bool c) => some (.bool (!c))
  | _ => none
def dNotIn (a b : D) : Option D := notD (dIn a b)
theorem str1 {x : Str} {c : Nat} (h : x.cps.toList = [c]) : x = ⟨#[c]⟩ := by
  obtain ⟨⟨l⟩⟩ := x
  simp only at h
  rw [h]
theorem iteSome {α : Type} {c : Prop} [Decidable c] {a b : α} (h : (if c then some a else none) = some b) : c ∧ a = b := by
  by_cases hc : c
  · rw [if_pos hc] at h
    exact ⟨hc, Option.some.inj h⟩
  · rw [if_neg hc] at h
    cases h
theorem big (h : n ≤ 1000000) : n ≤ sizeLine := Nat.le_trans h (by decide)
theorem pyL_map : ∀ ds : List D, D.pyL ds = ds.map D.py
  | [] => rfl
  | d :: ds => by
    show d.py :: D.pyL ds = _
    rw [pyL_map ds]
    rfl
theorem any_py (ds : List D) (a : D) : ((D.pyL ds).any fun z => PyData.eqv z a.py) = ds.any fun z => eqv z a := by
  rw [pyL_map, List.any_map]
  rfl
theorem DVs.flat_rep {K : Kx} {G : Hp} {xs : List V} {ds : List D} (h : DVs K G xs ds) : ∀ m : Nat, DVs K G (List.replicate m xs).flatten (List.replicate m ds).flatten
  | 0 => .nil
  | m + 1 => by
    rw [List.replicate_succ, List.replicate_succ, List.flatten_cons, List.flatten_cons]
    exact h.append (h.flat_rep m)
section
variable {X : Cx} {K : Kx}
theorem od_add : OpF X K (binaryOp .Add) dAdd := fun hK => by
  refine ⟨_, (op_add.or op_add_str).or (op_cat.or op_catA), fun M H v u a b c Q fr ha hb e q => ?_⟩
  match a, b, ha, hb, e with
  | .int i, .int j, ha, hb, e =>
    cases ha.int
    cases hb.int
    cases e
    exact .inl (.inl ⟨_, _, rfl, rfl, q _ H (Same.refl _) (.int _)⟩)
  | .str i, .str j, ha, hb, e =>
    cases ha.str
    cases hb.str
    obtain ⟨h1, rfl⟩ := iteSome e
    exact .inl (.inr ⟨_, _, rfl, rfl, big h1, q _ H (Same.refl _) (.str _)⟩)
  | .list ds, .list es, ha, hb, e =>
    obtain ⟨h5, rfl⟩ := iteSome e
    obtain ⟨a1, xs, rfl, h1, h2⟩ := ha.list
    obtain ⟨a2, ys, rfl, h3, h4⟩ := hb.list
    exact .inr (.inl ⟨a1, a2, xs, ys, rfl, rfl, h1, h3, by rw [h2.length, h4.length]; exact big h5, fun p hp => q _ _ (same1 hp) (.lst (hid_mk (fr p hp) upd_same) ((h2.append h4).same (hid_same (same1 hp))))⟩)
  | .tuple ds, .tuple es, ha, hb, e =>
    obtain ⟨h5, rfl⟩ := iteSome e
    obtain ⟨a1, xs, rfl, h1, h2, t1⟩ := ha.tuple
    obtain ⟨a2, ys, rfl, h3, h4, t2⟩ := hb.tuple
    rw [← hK] at h1 h3
    refine .inr (.inr ⟨a1, a2, xs, ys, rfl, rfl, h1, h3, by rw [h2.length, h4.length]; exact big h5, fun hx => ?_, fun hx hy => ?_, fun hx hy p hp => q _ _ (same1 hp) (.tup (SqT.of (hid_mk (fr p hp) upd_same)) ((h2.append h4).same (hid_same (same1 hp))))⟩)
    · subst hx
      cases h2
      exact q _ H (Same.refl _) t2
    · subst hy
      cases h4
      rw [List.append_nil] at q
      exact q _ H (Same.refl _) t1
theorem od_sub : OpF X K (binaryOp .Sub) dSub := fun hK => by
  refine ⟨_, op_sub, fun M H v u a b c Q fr ha hb e q => ?_⟩
  match a, b, ha, hb, e with
  | .int i, .int j, ha, hb, e =>
    cases ha.int
    cases hb.int
    cases e
    exact ⟨_, _, rfl, rfl, q _ H (Same.refl _) (.int _)⟩
theorem wide_ok {i j : Int} (h1 : wide i = true) (h2 : wide j = true) : CMulW i j := by
  have a := of_decide_eq_true h1
  have b := of_decide_eq_true h2
  show _ < 1000000
  omega
theorem op_fdivX : OpR X (binaryOp .FloorDiv) (rI (fun _ j => j ≠ 0 ∧ j.natAbs.log2 < 9000) fun i j => .int (i.fdiv j)) := opI fun _ _ _ _ _ _ _ hc q => floordiv_int hc.1 q (.inl (PyProof.noPylong_of_log2 hc.2))
theorem od_mul : OpF X K (binaryOp .Mult) dMul := fun hK => by
  refine ⟨_, (op_mulW.or op_rep).or (op_repT.or (op_tup1.or op_tup0)), fun M H v u a b c Q fr ha hb e q => ?_⟩
  match a, b, ha, hb, e with
  | .int i, .int j, ha, hb, e =>
    cases ha.int
    cases hb.int
    obtain ⟨h1, rfl⟩ := iteSome e
    exact .inl (.inl ⟨_, _, rfl, rfl, wide_ok h1.1 h1.2, q _ H (Same.refl _) (.int _)⟩)
  | .list ds, .int k, ha, hb, e =>
    cases hb.int
    obtain ⟨⟨h3, h4, h5⟩, rfl⟩ := iteSome e
    obtain ⟨a1, xs, rfl, h1, h2⟩ := ha.list
    refine .inl (.inr ⟨a1, k, xs, rfl, rfl, h1, by omega, by omega, ?_, fun p hp => q _ _ (same1 hp) (.lst (hid_mk (fr p hp) upd_same) ((h2.flat_rep _).same (hid_same (same1 hp))))⟩)
    rw [h2.length]
    have : ds.length * k.toNat ≤ 1000 * 1000 := Nat.mul_le_mul h5 (by omega)
    exact big (by omega)
  | .tuple ds, .int k, ha, hb, e =>
    cases hb.int
    obtain ⟨⟨h0, h3, h4, h5⟩, rfl⟩ := iteSome e
    obtain ⟨a1, xs, rfl, h1, h2, t1⟩ := ha.tuple
    rw [← hK] at h1
    have hx : xs ≠ [] := fun z => by
      subst z
      cases h2
      exact h0 rfl
    by_cases c2 : 2 ≤ k
    · exact .inr (.inl ⟨a1, k, xs, rfl, rfl, h1, hx, c2, h4, by rw [h2.length]; exact h5, fun p hp => q _ _ (same1 hp) (.tup (SqT.of (hid_mk (fr p hp) upd_same)) ((h2.flat_rep _).same (hid_same (same1 hp))))⟩)
    · by_cases c1 : k = 1
      · subst c1
        have e1 : (List.replicate (1 : Int).toNat ds).flatten = ds := by
          show (List.replicate 1 ds).flatten = ds
          simp
        rw [e1] at q
        exact .inr (.inr (.inl ⟨a1, xs, rfl, rfl, h1, q _ H (Same.refl _) t1⟩))
      · have c0 : k = 0 := by omega
        subst c0
        exact .inr (.inr (.inr ⟨a1, xs, rfl, rfl, h1, hx, fun p hp => q _ _ (same1 hp) (.tup (SqT.of (hid_mk (fr p hp) upd_same)) .nil)⟩))
theorem od_fdiv : OpF X K (binaryOp .FloorDiv) dFdiv := fun hK => by
  refine ⟨_, op_fdivX, fun M H v u a b c Q fr ha hb e q => ?_⟩
  match a, b, ha, hb, e with
  | .int i, .int j, ha, hb, e =>
    cases ha.int
    cases hb.int
    obtain ⟨h1, rfl⟩ := iteSome e
    exact ⟨_, _, rfl, rfl, ⟨h1.1, Nat.lt_of_lt_of_le (of_decide_eq_true h1.2) (by decide)⟩, q _ H (Same.refl _) (.int _)⟩
theorem od_mod : OpF X K (binaryOp .Mod) dMod := fun hK => by
  refine ⟨_, op_modN, fun M H v u a b c Q fr ha hb e q => ?_⟩
  match a, b, ha, hb, e with
  | .int i, .int j, ha, hb, e =>
    cases ha.int
    cases hb.int
    obtain ⟨h1, rfl⟩ := iteSome e
    exact ⟨_, _, rfl, rfl, h1, q _ H (Same.refl _) (.int _)⟩
theorem od_pow : OpF X K (binaryOp .Pow) dPow := fun hK => by
  refine ⟨_, op_pow, fun M H v u a b c Q fr ha hb e q => ?_⟩
  match a, b, ha, hb, e with
  | .int i, .int j, ha, hb, e =>
    cases ha.int
    cases hb.int
    obtain ⟨h1, rfl⟩ := iteSome e
    exact ⟨_, _, rfl, rfl, h1, q _ H (Same.refl _) (.int _)⟩
theorem od_lt : OpF X K (compareOp .Lt) dLt := fun hK => by
  refine ⟨_, op_lt.or op_lt_str, fun M H v u a b c Q fr ha hb e q => ?_⟩
  match a, b, ha, hb, e with
  | .int i, .int j, ha, hb, e =>
    cases ha.int
    cases hb.int
    cases e
    exact .inl ⟨_, _, rfl, rfl, q _ H (Same.refl _) (.bl _)⟩
  | .str i, .str j, ha, hb, e =>
    cases ha.str
    cases hb.str
    cases e
    exact .inr ⟨_, _, rfl, rfl, q _ H (Same.refl _) (.bl _)⟩
theorem od_le : OpF X K (compareOp .LtE) dLe := fun hK => by
  refine ⟨_, op_le.or op_le_str, fun M H v u a b c Q fr ha hb e q => ?_⟩
  match a, b, ha, hb, e with
  | .int i, .int j, ha, hb, e =>
    cases ha.int
    cases hb.int
    cases e
    exact .inl ⟨_, _, rfl, rfl, q _ H (Same.refl _) (.bl _)⟩
  | .str i, .str j, ha, hb, e =>
    cases ha.str
    cases hb.str
    cases e
    exact .inr ⟨_, _, rfl, rfl, q _ H (Same.refl _) (.bl _)⟩
theorem od_gt : OpF X K (compareOp .Gt) dGt := fun hK => by
  refine ⟨_, op_gt.or op_gt_str, fun M H v u a b c Q fr ha hb e q => ?_⟩
  match a, b, ha, hb, e with
  | .int i, .int j, ha, hb, e =>
    cases ha.int
    cases hb.int
    cases e
    exact .inl ⟨_, _, rfl, rfl, q _ H (Same.refl _) (.bl _)⟩
  | .str i, .str j, ha, hb, e =>
    cases ha.str
    cases hb.str
    cases e
    exact .inr ⟨_, _, rfl, rfl, q _ H (Same.refl _) (.bl _)⟩
theorem od_ge : OpF X K (compareOp .GtE) dGe := fun hK => by
  refine ⟨_, op_ge.or op_ge_str, fun M H v u a b c Q fr ha hb e q => ?_⟩
  match a, b, ha, hb, e with
  | .int i, .int j, ha, hb, e =>
    cases ha.int
    cases hb.int
    cases e
    exact .inl ⟨_, _, rfl, rfl, q _ H (Same.refl _) (.bl _)⟩
  | .str i, .str j, ha, hb, e =>
    cases ha.str
    cases hb.str
    cases e
    exact .inr ⟨_, _, rfl, rfl, q _ H (Same.refl _) (.bl _)⟩
theorem okEq_ok {M : List Addr} {H : Hp} {v : V} {a : D} (h : RV K M H v a) (e : okEq a = true) : Dp K.K H v a.py ∧ SeqAt.shaped a.py = true := by
  unfold okEq at e
  rw [Bool.and_eq_true] at e
  exact ⟨h.dp e.1, e.2⟩
theorem od_eq (hu : X.A.units + 64 < cLine) : OpF X K (compareOp .Eq) dEq := fun hK => by
  refine ⟨_, op_eq.or (op_eqD hu), fun M H v u a b c Q fr ha hb e q => ?_⟩
  obtain ⟨h0, rfl⟩ := iteSome e
  rcases okE_cases h0 with ⟨x, y, rfl, rfl⟩ | ⟨h1, h2⟩
  · cases ha.str
    cases hb.str
    refine .inl ⟨rfl, ?_⟩
    have e : decide (V.str x = V.str y) = eqv (.str x) (.str y) := by
      show _ = (x == y)
      by_cases z : x = y <;> simp [z]
    rw [e]
    exact q _ H (Same.refl _) (.bl _)
  · obtain ⟨a1, a2⟩ := okEq_ok ha h1
    obtain ⟨b1, b2⟩ := okEq_ok hb h2
    rw [← hK] at a1 b1
    exact .inr ⟨a.py, b.py, a1, b1, a2, b2, q _ H (Same.refl _) (.bl _)⟩
theorem od_ne (hu : X.A.units + 64 < cLine) : OpF X K (compareOp .NotEq) dNe := fun hK => by
  refine ⟨_, op_ne.or (op_neD hu), fun M H v u a b c Q fr ha hb e q => ?_⟩
  obtain ⟨h0, rfl⟩ := iteSome e
  rcases okE_cases h0 with ⟨x, y, rfl, rfl⟩ | ⟨h1, h2⟩
  · cases ha.str
    cases hb.str
    refine .inl ⟨rfl, ?_⟩
    have e : decide (V.str x = V.str y) = eqv (.str x) (.str y) := by
      show _ = (x == y)
      by_cases z : x = y <;> simp [z]
    rw [e]
    exact q _ H (Same.refl _) (.bl _)
  · obtain ⟨a1, a2⟩ := okEq_ok ha h1
    obtain ⟨b1, b2⟩ := okEq_ok hb h2
    rw [← hK] at a1 b1
    exact .inr ⟨a.py, b.py, a1, b1, a2, b2, q _ H (Same.refl _) (.bl _)⟩
theorem isNone_ok {M : List Addr} {H : Hp} {v : V} {a : D} (h : RV K M H v a) (hn : a ≠ .any) : decide (v = V.non) = isNone a := by
  cases h with
  | dat h => cases h <;> first | rfl | exact absurd rfl hn
  | ln e h => cases h <;> rfl
theorem od_isnot : OpF X K (compareOp .IsNot) dIsNot := fun hK => by
  refine ⟨_, op_notN, fun M H v u a b c Q fr ha hb e q => ?_⟩
  match b, hb, e with
  | .none, hb, e =>
    cases hb.none
    obtain ⟨hn, rfl⟩ := iteSome e
    have hn : a ≠ .any := fun z => by
      subst z
      cases hn
    refine ⟨rfl, ?_⟩
    rw [isNone_ok ha hn]
    exact q _ H (Same.refl _) (.bl _)
theorem od_is : OpF X K (compareOp .Is) dIs := fun hK => by
  refine ⟨_, op_isN, fun M H v u a b c Q fr ha hb e q => ?_⟩
  match b, hb, e with
  | .none, hb, e =>
    cases hb.none
    obtain ⟨hn, rfl⟩ := iteSome e
    have hn : a ≠ .any := fun z => by
      subst z
      cases hn
    refine ⟨rfl, ?_⟩
    rw [isNone_ok ha hn]
    exact q _ H (Same.refl _) (.bl _)
/-! ### in -/
def rInTD (K : PySem.W.Frag) : R2 := fun x y H Q => ∃ d ds, Dp K H x d ∧ Dp K H y (.tuple ds) ∧ SeqAt.shaped d = true ∧ SeqAt.shaped (.tuple ds) = true ∧ Q (.bl (ds.any fun z => PyData.eqv z d)) H
def rNotInTD (K : PySem.W.Frag) : R2 := fun x y H Q => ∃ d ds, Dp K H x d ∧ Dp K H y (.tuple ds) ∧ SeqAt.shaped d = true ∧ SeqAt.shaped (.tuple ds) = true ∧ Q (.bl (!ds.any fun z => PyData.eqv z d)) H
theorem op_inTD (hu : X.A.units + 65 < cLine) : OpR X (compareOp .In) (rInTD X.K) := by
  intro pins s σ H x y v u Q I rx ry h
  obtain ⟨d, ds, hd, he, sd, se, q⟩ := h
  obtain ⟨as, r1⟩ := Dp.reads I d x v hd rx
  obtain ⟨bs, r2⟩ := Dp.reads I (.tuple ds) y u he ry
  exact SeqAt.in_tuple_reads r2 r1 (SeqAt.canLay_of_shaped se) (SeqAt.canLay_of_shaped sd) (room_in_shaped sd hu) ⟨.bl _, H, I, rfl, q⟩
theorem op_notInTD (hu : X.A.units + 65 < cLine) : OpR X (compareOp .NotIn) (rNotInTD X.K) := by
  intro pins s σ H x y v u Q I rx ry h
  obtain ⟨d, ds, hd, he, sd, se, q⟩ := h
  obtain ⟨as, r1⟩ := Dp.reads I d x v hd rx
  obtain ⟨bs, r2⟩ := Dp.reads I (.tuple ds) y u he ry
  exact SeqAt.notIn_tuple_reads r2 r1 (SeqAt.canLay_of_shaped se) (SeqAt.canLay_of_shaped sd) (room_in_shaped sd hu) ⟨.bl _, H, I, rfl, q⟩
theorem dIn_cases {a b : D} {c : D} (e : dIn a b = some c) : (∃ x y s, a = .str x ∧ b = .str y ∧ x.cps.toList = [s] ∧ c = .bool (decide (s ∈ y.cps.toList))) ∨
    (∃ ds, b = .list ds ∧ okEq a = true ∧ okEq (.list ds) = true ∧ c = .bool (ds.any fun z => eqv z a)) ∨ ∃ ds, b = .tuple ds ∧ okEq a = true ∧ okEq (.tuple ds) = true ∧ c = .bool (ds.any fun z => eqv z a) := by
  cases b with
  | str y =>
    cases a with
    | str x =>
      have e' : (match x.cps.toList with
        | [c] => some (D.bool (decide (c ∈ y.cps.toList)))
        | _ => none) = some c := e
      split at e'
      · rename_i c' hc
        exact .inl ⟨x, y, c', rfl, rfl, hc, (Option.some.inj e').symm⟩
      · cases e'
    | _ => cases e
  | list ds =>
    have e' : (if okEq a = true ∧ okEq (.list ds) = true then some (D.bool (ds.any fun z => eqv z a)) else none) = some c := by cases a <;> exact e
    obtain ⟨⟨k1, k2⟩, rfl⟩ := iteSome e'
    exact .inr (.inl ⟨ds, rfl, k1, k2, rfl⟩)
  | tuple ds =>
    have e' : (if okEq a = true ∧ okEq (.tuple ds) = true then some (D.bool (ds.any fun z => eqv z a)) else none) = some c := by cases a <;> exact e
    obtain ⟨⟨k1, k2⟩, rfl⟩ := iteSome e'
    exact .inr (.inr ⟨ds, rfl, k1, k2, rfl⟩)
  | _ => cases a <;> cases e
theorem od_in (hu : X.A.units + 65 < cLine) : OpF X K (compareOp .In) dIn := fun hK => by
  refine ⟨_, op_in_sign.or ((op_inD hu).or (op_inTD hu)), fun M H v u a b c Q fr ha hb e q => ?_⟩
  rcases dIn_cases e with ⟨x, y, s, rfl, rfl, hc, rfl⟩ | ⟨ds, rfl, k1, k2, rfl⟩ | ⟨ds, rfl, k1, k2, rfl⟩
  · cases ha.str
    cases hb.str
    rw [str1 hc]
    exact .inl ⟨s, y, rfl, rfl, q _ H (Same.refl _) (.bl _)⟩
  · obtain ⟨a1, a2⟩ := okEq_ok ha k1
    obtain ⟨b1, b2⟩ := okEq_ok hb k2
    rw [← hK] at a1 b1
    rw [← any_py] at q
    exact .inr (.inl ⟨a.py, D.pyL ds, a1, b1, a2, b2, q _ H (Same.refl _) (.bl _)⟩)
  · obtain ⟨a1, a2⟩ := okEq_ok ha k1
    obtain ⟨b1, b2⟩ := okEq_ok hb k2
    rw [← hK] at a1 b1
    rw [← any_py] at q
    exact .inr (.inr ⟨a.py, D.pyL ds, a1, b1, a2, b2, q _ H (Same.refl _) (.bl _)⟩)
theorem notD_some {o : Option D} {c : D} (e : notD o = some c) : ∃ b, o = some (.bool b) ∧ c = .bool (!b) := by
  match o, e with
  | some (.bool b), e =>
    cases e
    exact ⟨b, rfl, rfl⟩
theorem od_notin (hu : X.A.units + 65 < cLine) : OpF X K (compareOp .NotIn) dNotIn := fun hK => by
  refine ⟨_, op_notIn_sign.or ((op_notInD hu).or (op_notInTD hu)), fun M H v u a b c Q fr ha hb e q => ?_⟩
  obtain ⟨b', e2, rfl⟩ := notD_some e
  rcases dIn_cases e2 with ⟨x, y, s, rfl, rfl, hc, eb⟩ | ⟨ds, rfl, k1, k2, eb⟩ | ⟨ds, rfl, k1, k2, eb⟩ <;> cases eb
  · cases ha.str
    cases hb.str
    rw [str1 hc]
    exact .inl ⟨s, y, rfl, rfl, q _ H (Same.refl _) (.bl _)⟩
  · obtain ⟨a1, a2⟩ := okEq_ok ha k1
    obtain ⟨b1, b2⟩ := okEq_ok hb k2
    rw [← hK] at a1 b1
    rw [← any_py] at q
    exact .inr (.inl ⟨a.py, D.pyL ds, a1, b1, a2, b2, q _ H (Same.refl _) (.bl _)⟩)
  · obtain ⟨a1, a2⟩ := okEq_ok ha k1
    obtain ⟨b1, b2⟩ := okEq_ok hb k2
    rw [← hK] at a1 b1
    rw [← any_py] at q
    exact .inr (.inr ⟨a.py, D.pyL ds, a1, b1, a2, b2, q _ H (Same.refl _) (.bl _)⟩)
end
end FL

/-! Statements as functions of the slots. -/
namespace FL
open PySem PySem.Spec PyProof.Rows L2 Gd Fx Stp
inductive Out where
  | nx (δ : Sl)
  | rt (d : D)
  | bk (δ : Sl)
  | ct (δ : Sl)
abbrev RS := T (Xn × Sl)
abbrev FS := Sl → RS Out
def edOf (F : Fc) (E : Ends) : Out → Nat → Prop
  | .nx δ, n => ∀ M σ H, Ok F M σ H δ n → E.nx σ H
  | .rt d, n => ∀ v H, Ret F H n v d → E.rt v H
  | .bk δ, n => ∀ M σ H, Ok F M σ H δ n → E.bk σ H
  | .ct δ, n => ∀ M σ H, Ok F M σ H δ n → E.ct σ H
def tS (F : Fc) (Z : ZF) (f : FS) : TS := fun E σ H => ∃ M δ n, Ok F M σ H δ n ∧ (f δ).wp n (edOf F E) (fun x n' => Z x.1 n' x.2)
structure PFS (X : Cx) (F : Fc) (st : Stmt) (f : FS) : Prop where
  ps : ∀ Z, Lk X F Z → PS X st (tS F Z f)
structure PFB (X : Cx) (F : Fc) (st : List Stmt) (f : FS) : Prop where
  ps : ∀ Z, Lk X F Z → PSs X st (tS F Z f)
theorem ps_to {X : Cx} {st : Stmt} {t t' : TS} (h : PS X st t) (k : ∀ D σ H, t' D σ H → t D σ H) : PS X st t' := ⟨fun pins s σ H D I q => h.run pins s σ H D I (k D σ H q)⟩
theorem pss_to {X : Cx} {st : List Stmt} {t t' : TS} (h : PSs X st t) (k : ∀ D σ H, t' D σ H → t D σ H) : PSs X st t' := ⟨fun pins s σ H D I q => h.run pins s σ H D I (k D σ H q)⟩
/-- an expression within a statement -/
def lft {α : Type} (δ : Sl) (t : R α) : RS α := t.mapEx fun x => (x, δ)
def sNext : FS := fun δ => .ret (.nx δ)
def oSeq (g : FS) : Out → RS Out
  | .nx δ => g δ
  | o => .ret o
def sSeq (f g : FS) : FS := fun δ => (f δ).bind (oSeq g)
def sSet (i : Nat) (f : FE) : FS := fun δ => (lft δ (f δ)).bind fun w => (lft δ w.dat).bind fun x => .ret (.nx (δ.set i (some (S.v (.d x)))))
def sIf (c : FT) (f g : FS) : FS := fun δ => (lft δ (c δ)).bind fun b => if b = true then f δ else g δ
def sRet (f : FE) : FS := fun δ => (lft δ (f δ)).bind fun w => (lft δ w.dat).bind fun x => .ret (.rt x)
def sRetN : FS := fun _ => .ret (.rt .none)
def sDrop (f : FE) : FS := fun δ => (lft δ (f δ)).bind fun _ => .ret (.nx δ)
def sBrk : FS := fun δ => .ret (.bk δ)
def sCnt : FS := fun δ => .ret (.ct δ)
section
variable {F : Fc} {Z : ZF} {M : List Addr} {σ : L2.St} {H : Hp} {δ : Sl} {n : Nat} {E : Ends}
theorem goS {f : FS} {A : Out → Nat → Prop} (ok : Ok F M σ H δ n) (q : (f δ).wp n A (fun x n' => Z x.1 n' x.2)) (k : ∀ o n', A o n' → edOf F E o n') : tS F Z f E σ H := ⟨M, δ, n, ok, T.wp_mono k (fun _ _ z => z) _ _ q⟩
theorem lftE {f : FE} {A : W → Nat → Prop} {Q : VK} (ok : Ok F M σ H δ n) (q : (lft δ (f δ)).wp n A (fun x n' => Z x.1 n' x.2)) (k : ∀ w n' v H', A w n' → Kp F M H H' → Ok F M σ H' δ n' → VOk F M H' v w → Q v H') : tE F Z f σ H Q := goE ok ((T.wp_mapEx _ _).mp q) k
theorem lftT {f : FT} {A : Bool → Nat → Prop} {Q : Bool → Hp → Prop} (ok : Ok F M σ H δ n) (q : (lft δ (f δ)).wp n A (fun x n' => Z x.1 n' x.2)) (k : ∀ b n' H', A b n' → Kp F M H H' → Ok F M σ H' δ n' → Q b H') : tT F Z f σ H Q := goT ok ((T.wp_mapEx _ _).mp q) k
theorem lftA {f : FA} {A : List W → Nat → Prop} {Q : List V → Hp → Prop} (ok : Ok F M σ H δ n) (q : (lft δ (f δ)).wp n A (fun x n' => Z x.1 n' x.2)) (k : ∀ ws n' vs H', A ws n' → Kp F M H H' → Ok F M σ H' δ n' → VOks F M H' vs ws → Q vs H') : tA F Z f σ H Q := goA ok ((T.wp_mapEx _ _).mp q) k
theorem lft_dat {w : W} {v : V} {A : D → Nat → Prop} {Z' : Xn × Sl → Nat → Prop} (h : VOk F M H v w) (q : (lft δ w.dat).wp n A Z') : ∃ x, w = .d x ∧ DV F.K (hid M H) v x ∧ A x n := dv_dat h ((T.wp_mapEx _ _).mp q)
end
section
variable {X : Cx} {F : Fc} {st : Stmt} {rest a b : List Stmt} {f g : FS}
theorem pfb_nil : PFB X F [] sNext := ⟨fun Z _ => pss_to pss_nil fun D σ H ⟨M, δ, n, ok, q⟩ => q M σ H ok⟩
theorem oSeq_to {Z : ZF} {E : Ends} : ∀ o n, (oSeq g o).wp n (edOf F E) (fun x n' => Z x.1 n' x.2) → edOf F { E with nx := tS F Z g E } o n
  | .nx δ, n, q => fun M σ H ok => ⟨M, δ, n, ok, q⟩
  | .rt d, n, q => q
  | .bk δ, n, q => q
  | .ct δ, n, q => q
theorem pfb_cons (h1 : PFS X F st f) (h2 : PFB X F rest g) : PFB X F (st :: rest) (sSeq f g) :=
  ⟨fun Z tk => pss_to (pss_cons (h1.ps Z tk) (h2.ps Z tk)) fun D σ H ⟨M, δ, n, ok, q⟩ => goS ok ((T.wp_bind _ _).mp q) oSeq_to⟩
theorem pfb_one (h1 : PFS X F st f) : PFB X F [st] f := ⟨fun Z tk => pss_one (h1.ps Z tk)⟩
theorem nol_d {x y : D} : W.d x ≠ .ln y := fun z => by cases z
theorem pfs_set {i : Nat} {x : Str} {e : Expr} {fe : FE} {pos' pos : Pos} (hN : X.N.Nodup) (hi : X.N[i]? = some x) (hx : Loc X.env.scope x) (he : PF X F e fe) (hs : swapsWith e (some (.Name x pos')) pos.line X.env = pure false := by rfl)
    (hf : X.fn x = true ∨ X.env.scope.names.lookup x = some .local := by first | exact .inl rfl | exact .inr rfl | assumption) : PFS X F (.Assign [.Name x pos'] e pos) (sSet i fe) :=
  ⟨fun Z tk => ps_to (ps_set hN hi hx (he.pe Z tk) hs hf) fun D σ H ⟨M, δ, n, ok, q⟩ => lftE ok ((T.wp_bind _ _).mp q) fun w n1 v H1 q1 s1 ok1 v1 => by
    obtain ⟨x, rfl, hv, q2⟩ := lft_dat v1 ((T.wp_bind _ _).mp q1)
    exact q2 M _ H1 (ok1.set (w := .d x) hv fun _ => nol_d)⟩
theorem pfs_if {c : Expr} {fc : FT} {pos : Pos} (hc : PFT X F c fc) (ha : PFB X F a f) (hb : PFB X F b g) : PFS X F (.If c a b pos) (sIf fc f g) :=
  ⟨fun Z tk => ps_to (ps_if (hc.pt Z tk) (ha.ps Z tk) (hb.ps Z tk)) fun D σ H ⟨M, δ, n, ok, q⟩ => lftT ok ((T.wp_bind _ _).mp q) fun c n1 H1 q1 s1 ok1 => iteMono (fun q2 => ⟨M, δ, n1, ok1, q2⟩) (fun q2 => ⟨M, δ, n1, ok1, q2⟩) (wp_ite.mp q1)⟩
theorem pfs_ret {e : Expr} {fe : FE} {pos : Pos} (he : PF X F e fe) : PFS X F (.Return (some e) pos) (sRet fe) :=
  ⟨fun Z tk => ps_to (ps_ret (he.pe Z tk)) fun D σ H ⟨M, δ, n, ok, q⟩ => lftE ok ((T.wp_bind _ _).mp q) fun w n1 v H1 q1 s1 ok1 v1 => by
    obtain ⟨x, rfl, hv, q2⟩ := lft_dat v1 ((T.wp_bind _ _).mp q1)
    exact q2 v H1 (ok1.ret hv)⟩
theorem pfs_retN {pos : Pos} : PFS X F (.Return none pos) sRetN := ⟨fun Z tk => ps_to ps_retN fun D σ H ⟨M, δ, n, ok, q⟩ => q .non H (ok.ret .non)⟩
theorem pfs_expr {e : Expr} {fe : FE} {pos : Pos} (he : PF X F e fe) (hs : swapsWith e none pos.line X.env = pure false := by rfl) : PFS X F (.Expr e pos) (sDrop fe) :=
  ⟨fun Z tk => ps_to (ps_expr (he.pe Z tk) hs) fun D σ H ⟨M, δ, n, ok, q⟩ => lftE ok ((T.wp_bind _ _).mp q) fun w n1 v H1 q1 s1 ok1 v1 => q1 M σ H1 ok1⟩
theorem pfs_pass {pos : Pos} : PFS X F (.Pass pos) sNext := ⟨fun Z tk => ps_to ps_pass fun D σ H ⟨M, δ, n, ok, q⟩ => q M σ H ok⟩
theorem pfs_break {pos : Pos} : PFS X F (.Break pos) sBrk := ⟨fun Z tk => ps_to ps_break fun D σ H ⟨M, δ, n, ok, q⟩ => q M σ H ok⟩
theorem pfs_continue {pos : Pos} : PFS X F (.Continue pos) sCnt := ⟨fun Z tk => ps_to ps_continue fun D σ H ⟨M, δ, n, ok, q⟩ => q M σ H ok⟩
/-! ### x op= e -/
def sAug (i : Nat) (g : D → D → Option D) (f : FE) : FS := fun δ => (lft δ (fVar i δ)).bind fun a => (lft δ (f δ)).bind fun b => (lft δ a.rd).bind fun x => (lft δ b.rd).bind fun y => (lft δ (T.of (g x y))).bind fun z => .ret (.nx (δ.set i (some (S.v (.d z)))))
end
/-! ### an anchor more -/
section
variable {F : Fc} {M : List Addr} {σ : L2.St} {H H' : Hp} {δ : Sl} {n n' : Nat} {A : List Addr × Hp}
theorem VOk.more {v : V} {w : W} (h : VOk F M H v w) : VOk (F.more A) M H v w := by cases w <;> exact h
theorem VOk.unmore {v : V} {w : W} (h : VOk (F.more A) M H v w) : VOk F M H v w := by cases w <;> exact h
theorem Ok.more (h : Ok F M σ H δ n) : Ok (F.more (M, H)) M σ H δ n where
  len := h.len
  val := fun i w e => let ⟨v, h1, h2⟩ := h.val i w e; ⟨v, h1, h2.more⟩
  own := h.own
  dis := h.dis
  nol := h.nol
  sub := h.sub
  new := h.new
  al := h.al
  ext := h.ext
  frm := h.frm
  tab := h.tab
  wel := h.wel
  sw := h.sw
  anc := fun B hB => by
    rcases List.mem_cons.mp hB with rfl | hB
    · exact ⟨Same.refl _, fun p hp => .inl hp⟩
    · exact h.anc B hB
theorem Ok.unmore (h : Ok (F.more A) M σ H δ n) : Ok F M σ H δ n where
  len := h.len
  val := fun i w e => let ⟨v, h1, h2⟩ := h.val i w e; ⟨v, h1, h2.unmore⟩
  own := h.own
  dis := h.dis
  nol := h.nol
  sub := h.sub
  new := h.new
  al := h.al
  ext := h.ext
  frm := h.frm
  tab := h.tab
  wel := h.wel
  sw := h.sw
  anc := fun B hB => h.anc B (List.mem_cons_of_mem _ hB)
/-- the anchor's heap is seen -/
theorem Ok.seen (h : Ok (F.more A) M σ H δ n) : Same (hid A.1 A.2) (hid M H) := fun b o e => by
  obtain ⟨h1, h2⟩ := h.anc A (List.mem_cons_self ..)
  obtain ⟨b1, b2⟩ := hid_some e
  refine hid_mk (fun hm => ?_) (hid_some (h1 b o e)).2
  rcases h2 b hm with q | q
  · exact b1 q
  · rw [b2] at q
    cases q
theorem RetB.unmore (r : RetB (F.more A) H n) : RetB F H n := ⟨r.ext, r.frm, r.tab, r.al, r.wel⟩
theorem Ret.unmore {v : V} {d : D} (r : Ret (F.more A) H n v d) : Ret F H n v d := ⟨r.toRetB.unmore, r.val⟩
end
/-! ### what is walked over -/
structure SrcD (K : Kx) (M : List Addr) (H : Hp) (J : It) (xs : List D) : Prop where
  goes : ∀ i M2 H2, i < xs.length → Same (hid M H) (hid M2 H2) → J.go i H2
  stops : ∀ M2 H2, Same (hid M H) (hid M2 H2) → J.stop xs.length H2
  yields : ∀ i M2 H2 x H3, i < xs.length → Same (hid M H) (hid M2 H2) → (∀ p, H2 p = none → p ∉ M2) → J.yld i H2 x H3 → Same H2 H3 ∧ ∃ d, xs[i]? = some d ∧ DV K (hid M2 H3) x d
abbrev FI := Sl → R (List D)
def tI (F : Fc) (Z : ZF) (f : FI) : TI := fun σ H Q => ∃ M δ n, Ok F M σ H δ n ∧ (f δ).wp n (fun xs n' => ∀ J H', Kp F M H H' → Ok F M σ H' δ n' → SrcD F.K M H' J xs → Q J H') (fun x n' => Z x n' δ)
structure PFI (X : Cx) (F : Fc) (tg e : Expr) (f : FI) : Prop where
  pi : ∀ Z, Lk X F Z → PI X tg e (tI F Z f)
theorem pi_to {X : Cx} {tg e : Expr} {t t' : TI} (h : PI X tg e t) (k : ∀ σ H Q, t' σ H Q → t σ H Q) : PI X tg e t' := ⟨fun pins s σ H Q I q => h.run pins s σ H Q I (k σ H Q q)⟩
section
variable {K : Kx} {M : List Addr} {H : Hp} {a : Addr} {vs : List V} {ds : List D}
theorem src_list (h1 : hid M H a = some (.lst vs)) (h2 : DVs K (hid M H) vs ds) : SrcD K M H (Itl K.K a) ds where
  goes := fun i M2 H2 hi s => walk_list.goes i H2 (by rw [h2.length]; exact hi) (SqL.of (hid_to _ _ (s _ _ h1)))
  stops := fun M2 H2 s => by
    rw [← h2.length]
    exact walk_list.stops H2 (SqL.of (hid_to _ _ (s _ _ h1)))
  yields := fun i M2 H2 x H3 hi s fr y => by
    obtain ⟨rfl, e⟩ := (walk_list (xs := vs)).yields i H2 x H3 (by rw [h2.length]; exact hi) (SqL.of (hid_to _ _ (s _ _ h1))) y
    obtain ⟨d, e1, e2⟩ := h2.at' e
    exact ⟨Same.refl _, d, e1, e2.same s⟩
theorem src_tup (h1 : SqT K.K (hid M H) a vs) (h2 : DVs K (hid M H) vs ds) : SrcD K M H (Itt K.K a) ds where
  goes := fun i M2 H2 hi s => walk_tup.goes i H2 (by rw [h2.length]; exact hi) (seqT (s.trans hid_to) h1)
  stops := fun M2 H2 s => by
    rw [← h2.length]
    exact walk_tup.stops H2 (seqT (s.trans hid_to) h1)
  yields := fun i M2 H2 x H3 hi s fr y => by
    obtain ⟨rfl, e⟩ := (walk_tup (xs := vs)).yields i H2 x H3 (by rw [h2.length]; exact hi) (seqT (s.trans hid_to) h1) y
    obtain ⟨d, e1, e2⟩ := h2.at' e
    exact ⟨Same.refl _, d, e1, e2.same s⟩
def nums (lo : Int) (n : Nat) : List D := (List.range n).map fun (i : Nat) => D.int (lo + (i : Int))
theorem src_rng {lo : Int} {n : Nat} : SrcD K M H (Itr lo n) (nums lo n) where
  goes := fun i M2 H2 hi s => walk_range.goes i H2 (by unfold nums at hi; rw [List.length_map, List.length_range] at hi; exact hi) trivial
  stops := fun M2 H2 s => by
    unfold nums
    rw [List.length_map, List.length_range]
    exact walk_range.stops H2 trivial
  yields := fun i M2 H2 x H3 hi s fr y => by
    have hi' : i < n := by unfold nums at hi; rw [List.length_map, List.length_range] at hi; exact hi
    obtain ⟨rfl, rfl⟩ := (walk_range (lo := lo) (n := n)).yields i H2 x H3 hi' trivial y
    refine ⟨Same.refl _, .int (lo + (i : Int)), ?_, .int _⟩
    unfold nums
    rw [List.getElem?_map, List.getElem?_range hi']
    rfl
def signs (x : Str) : List D := x.cps.toList.map fun c => .str ⟨#[c]⟩
theorem signs_length (x : Str) : (signs x).length = x.cps.size := by
  unfold signs
  rw [List.length_map, Array.length_toList]
theorem src_str {x : Str} : SrcD K M H (Its x) (signs x) where
  goes := fun i M2 H2 hi s => walk_str.goes i H2 (by rw [signs_length] at hi; exact hi) trivial
  stops := fun M2 H2 s => by
    rw [signs_length]
    exact walk_str.stops H2 trivial
  yields := fun i M2 H2 y H3 hi s fr z => by
    rw [signs_length] at hi
    obtain ⟨rfl, c, e1, rfl⟩ := (walk_str (z := x)).yields i H2 y H3 hi trivial z
    refine ⟨Same.refl _, .str ⟨#[c]⟩, ?_, .str _⟩
    unfold signs
    rw [List.getElem?_map, Array.getElem?_toList, e1]
    rfl
end
end FL

/-! Targets, what is walked over, loops. -/
namespace FL
open PySem PySem.Spec PyProof.Rows L2 Gd Fx Stp
/-! ### targets -/
inductive Tg where
  | one (i : Nat)
  | many (is : List Nat)
def putAll : Sl → List Nat → List D → Option Sl
  | δ, i :: is, d :: ds => putAll (δ.set i (some (S.v (.d d)))) is ds
  | δ, [], [] => some δ
  | _, _, _ => none
def putT : Tg → Sl → D → Option Sl
  | .one i, δ, d => some (δ.set i (some (S.v (.d d))))
  | .many is, δ, .tuple ds => putAll δ is ds
  | .many is, δ, .list ds => putAll δ is ds
  | .many _, _, _ => none
def gTs : List Nat → TGs
  | [] => gNil
  | i :: is => gCons (gName i) (gTs is)
inductive Tgs (X : Cx) : List Expr → List Nat → Prop
  | nil : Tgs X [] []
  | cons {i : Nat} {x : Str} {es : List Expr} {is : List Nat} {pos : Pos} (hN : X.N.Nodup) (hi : X.N[i]? = some x) (hx : Loc X.env.scope x) (hf : X.fn x = true ∨ X.env.scope.names.lookup x = some .local) (r : Tgs X es is) : Tgs X (.Name x pos :: es) (i :: is)
theorem Tgs.pgs {X : Cx} : ∀ {es : List Expr} {is : List Nat}, Tgs X es is → PGs X es (gTs is)
  | _, _, .nil => pgs_nil
  | _, _, .cons hN hi hx hf r => pgs_cons (pg_name hN hi hx hf) r.pgs
theorem putAll_len : ∀ {is : List Nat} {ds : List D} {δ δ' : Sl}, putAll δ is ds = some δ' → ds.length = is.length
  | [], [], _, _, _ => rfl
  | i :: is, d :: ds, δ, δ', e => congrArg (· + 1) (putAll_len (δ := δ.set i (some (S.v (.d d)))) e)
  | [], _ :: _, _, _, e => by cases e
  | _ :: _, [], _, _, e => by cases e
theorem put_run {F : Fc} {M : List Addr} {H : Hp} {n : Nat} {E : L2.St → Hp → Prop} {δ' : Sl} : ∀ (is : List Nat) (vs : List V) (ds : List D) (σ : L2.St) (δ : Sl), DVs F.K (hid M H) vs ds → putAll δ is ds = some δ' → Ok F M σ H δ n → (∀ σ', Ok F M σ' H δ' n → E σ' H) → gTs is vs σ H E
  | [], _, _, σ, δ, .nil, e, ok, k => by
    cases e
    exact ⟨rfl, k σ ok⟩
  | i :: is, _, _, σ, δ, .cons (d := d) h t, e, ok, k => ⟨_, _, rfl, put_run is _ _ _ _ t e (ok.set (w := .d d) h fun _ => nol_d) k⟩
  | [], _, _, σ, δ, .cons _ _, e, _, _ => by cases e
  | _ :: _, _, _, σ, δ, .nil, e, _, _ => by cases e
theorem pg_alt {X : Cx} {t : Expr} {g g' : TG} (h : PG X t g) (h' : PG X t g') : PG X t (fun v σ H Q => g v σ H Q ∨ g' v σ H Q) :=
  ⟨fun pins s σ H v u Q I r q => q.elim (h.run pins s σ H v u Q I r) (h'.run pins s σ H v u Q I r)⟩
def gOf (K : PySem.W.Frag) : Tg → TG
  | .one i => gName i
  | .many is => fun v σ H Q => gTup K is.length (gTs is) v σ H Q ∨ gLst K is.length (gTs is) v σ H Q
structure PFG (X : Cx) (tg : Expr) (p : Tg) : Prop where
  pg : PG X tg (gOf X.K p)
theorem pfg_one {X : Cx} {i : Nat} {x : Str} {pos : Pos} (hN : X.N.Nodup) (hi : X.N[i]? = some x) (hx : Loc X.env.scope x) (hf : X.fn x = true ∨ X.env.scope.names.lookup x = some .local := by first | exact .inl rfl | exact .inr rfl | assumption) : PFG X (.Name x pos) (.one i) :=
  ⟨pg_name hN hi hx hf⟩
theorem pfg_many {X : Cx} {es : List Expr} {is : List Nat} {k : Nat} {pos : Pos} (hc : X.calm = true) (ht : Tgs X es is) (hn : (assignEach es X.env).length = is.length := by rfl) (hst : (assignEach es X.env).findIdx? (·.1) = none := by rfl) : PFG X (.Tuple es k pos) (.many is) :=
  ⟨pg_alt (pg_tup hc ht.pgs hn hst) (pg_lst hc ht.pgs hn hst)⟩
theorem gOf_run {K : PySem.W.Frag} {p : Tg} {F : Fc} {M : List Addr} {H : Hp} {n : Nat} {σ : L2.St} {δ : Sl} {v : V} {d : D} {δ' : Sl} {E : L2.St → Hp → Prop} (hK : K = F.K.K) (ok : Ok F M σ H δ n) (hv : DV F.K (hid M H) v d) (e : putT p δ d = some δ') (k : ∀ σ', Ok F M σ' H δ' n → E σ' H) : gOf K p v σ H E := by
  cases p with
  | one i =>
    cases e
    exact k _ (ok.set (w := .d d) hv fun _ => nol_d)
  | many is =>
    match d, hv, e with
    | .tuple ds, .tup (vs := vs) h2 h3, e => exact .inl ⟨_, vs, rfl, by rw [hK]; exact seqT hid_to h2, by rw [h3.length]; exact putAll_len e, put_run is vs ds σ δ h3 e ok k⟩
    | .list ds, .lst (vs := vs) h2 h3, e => exact .inr ⟨_, vs, rfl, SqL.of (hid_to _ _ h2), by rw [h3.length]; exact putAll_len e, put_run is vs ds σ δ h3 e ok k⟩
def Tg.sub : Tg → List Nat → Bool
  | .one i, vs => vs.contains i
  | .many is, vs => is.all vs.contains
theorem wipe_set (σ : L2.St) (a : Option V) {i : Nat} : ∀ {vs : List Nat}, i ∈ vs → L2.wipe (σ.set i a) vs = L2.wipe σ vs
  | v :: vs, h => by
    show (L2.wipe (σ.set i a) vs).set v none = (L2.wipe σ vs).set v none
    by_cases e : i ∈ vs
    · rw [wipe_set σ a e]
    · have ei : i = v := (List.mem_cons.mp h).resolve_right e
      subst ei
      have h2 : ∀ (σ : L2.St) (us : List Nat), i ∉ us → L2.wipe (σ.set i a) us = (L2.wipe σ us).set i a := fun σ us => by
        induction us with
        | nil => exact fun _ => rfl
        | cons u us ih =>
          intro hn
          show (L2.wipe (σ.set i a) us).set u none = ((L2.wipe σ us).set u none).set i a
          rw [ih fun q => hn (List.mem_cons_of_mem _ q), List.set_comm]
          exact fun q => hn (by rw [q]; exact List.mem_cons_self ..)
      rw [h2 σ vs e, List.set_set]
theorem wipe_wipe (σ : L2.St) : ∀ vs us : List Nat, (∀ v ∈ us, v ∈ vs) → L2.wipe (L2.wipe σ us) vs = L2.wipe σ vs
  | vs, [], _ => rfl
  | vs, u :: us, h => by
    show L2.wipe ((L2.wipe σ us).set u none) vs = _
    rw [wipe_set _ _ (h u (List.mem_cons_self ..))]
    exact wipe_wipe σ vs us fun v hv => h v (List.mem_cons_of_mem _ hv)
theorem gTs_keep {vs : List Nat} {E : L2.St → Hp → Prop} : ∀ (is : List Nat) (us : List V) (σ : L2.St) (H : Hp) , (∀ i ∈ is, i ∈ vs) → gTs is us σ H E → gTs is us σ H fun σ2 H2 => L2.wipe σ2 vs = L2.wipe σ vs ∧ E σ2 H2
  | [], us, σ, H, _, ⟨e, h⟩ => ⟨e, rfl, h⟩
  | i :: is, us, σ, H, hs, ⟨v, r, e, h⟩ => ⟨v, r, e, by
    have q := gTs_keep is r (σ.set i (some v)) H (fun j hj => hs j (List.mem_cons_of_mem _ hj)) h
    rw [wipe_set _ _ (hs i (List.mem_cons_self ..))] at q
    exact q⟩
theorem gOf_keep {K : PySem.W.Frag} {p : Tg} {vs : List Nat} {v : V} {σ : L2.St} {H : Hp} {E : L2.St → Hp → Prop} (hs : p.sub vs = true) (h : gOf K p v σ H E) : gOf K p v σ H fun σ2 H2 => L2.wipe σ2 vs = L2.wipe σ vs ∧ E σ2 H2 := by
  cases p with
  | one i => exact ⟨wipe_set _ _ (by simpa [Tg.sub] using hs), h⟩
  | many is =>
    have hs' : ∀ i ∈ is, i ∈ vs := by simpa [Tg.sub] using hs
    rcases h with ⟨a, xs, h1, h2, h3, h4⟩ | ⟨a, xs, h1, h2, h3, h4⟩
    · exact .inl ⟨a, xs, h1, h2, h3, gTs_keep _ _ _ _ hs' h4⟩
    · exact .inr ⟨a, xs, h1, h2, h3, gTs_keep _ _ _ _ hs' h4⟩
/-- a, b, .. = e -/
def sUnp (p : Tg) (f : FE) : FS := fun δ => (lft δ (f δ)).bind fun w => (lft δ w.dat).bind fun x => (T.of (putT p δ x)).bind fun δ' => .ret (.nx δ')
section
variable {X : Cx} {F : Fc} {e : Expr} {fe : FE}
theorem pfs_unp {es : List Expr} {p : Tg} {k : Nat} {tp pos : Pos} (he : PF X F e fe) (ht : PFG X (.Tuple es k tp) p) (hK : X.K = F.K.K := by rfl)
    (hs : swapsWithSole [.Tuple es k tp] e pos.line X.env = pure false := by rfl) (hw : swappedStores [.Tuple es k tp] e X.env = pure none := by rfl) (h1 : (assignEach [.Tuple es k tp] X.env).map (·.2) = [assign (.Tuple es k tp) X.env] := by rfl) :
    PFS X F (.Assign [.Tuple es k tp] e pos) (sUnp p fe) := by
  exact ⟨fun Z tk => ps_to (ps_asg (he.pe Z tk) ht.pg hs hw h1) fun D σ H ⟨M, δ, n, ok, q⟩ => lftE ok ((T.wp_bind _ _).mp q) fun w n1 v H1 q1 s1 ok1 v1 => by
    obtain ⟨x, rfl, hv, q2⟩ := lft_dat v1 ((T.wp_bind _ _).mp q1)
    obtain ⟨δ', e', q3⟩ := T.wp_of.mp ((T.wp_bind _ _).mp q2)
    exact gOf_run hK ok1 hv e' fun σ' ok' => q3 M σ' H1 ok'⟩
/-- a, b = e, f: two locals -/
def sPar (i j : Nat) (fa : FA) : FS := fun δ => (lft δ (fa δ)).bind fun ws => (lft δ (datL ws)).bind fun ds => (T.of (putAll δ [i, j] ds)).bind fun δ' => .ret (.nx δ')
theorem pfs_par {i j : Nat} {x y : Str} {px py pt pos : Pos} {a c : Expr} {fa : FA} {kt k2 pt2} (hc : X.calm = true) (hN : X.N.Nodup) (hi : X.N[i]? = some x) (hj : X.N[j]? = some y) (hij : i ≠ j)
    (hx : X.env.scope.names.lookup x = some .local) (hy : X.env.scope.names.lookup y = some .local) (ha : PFA X F [a, c] fa)
    (hw : swappedStores [.Tuple [.Name x px, .Name y py] kt pt] (.Tuple [a, c] k2 pt2) X.env = pure (some [x, y]))
    (hs : swapsWithSole [.Tuple [.Name x px, .Name y py] kt pt] (.Tuple [a, c] k2 pt2) pos.line X.env = pure false := by rfl) :
    PFS X F (.Assign [.Tuple [.Name x px, .Name y py] kt pt] (.Tuple [a, c] k2 pt2) pos) (sPar i j fa) :=
  ⟨fun Z tk => ps_to (ps_par hc hN hi hj hij hx hy (ha.pa Z tk) hw hs) fun D σ H ⟨M, δ, n, ok, q⟩ => lftA ok ((T.wp_bind _ _).mp q) fun ws n1 vs H1 q1 s1 ok1 v1 => by
    obtain ⟨ds, hv, q2⟩ := dvs_dat v1 ((T.wp_mapEx _ _).mp ((T.wp_bind _ _).mp q1))
    obtain ⟨δ', e', q3⟩ := T.wp_of.mp ((T.wp_bind _ _).mp q2)
    obtain ⟨d1, d2, rfl⟩ : ∃ d1 d2, ds = [d1, d2] := by
      have hl := putAll_len e'
      match ds, hl with
      | [d1, d2], _ => exact ⟨d1, d2, rfl⟩
    cases hv with
    | cons h1 t =>
    cases t with
    | cons h2 t =>
      cases t
      cases e'
      exact ⟨_, _, rfl, q3 M _ H1 ((ok1.set (w := .d d1) h1 fun _ => nol_d).set (w := .d d2) h2 fun _ => nol_d)⟩⟩
end
/-! ### what is walked over -/
def rIt (K : PySem.W.Frag) (v : V) (R : It → Hp → Prop) (H : Hp) : Prop := (∃ a, v = .ref a ∧ (∃ xs, SqL K H a xs) ∧ R (Itl K a) H) ∨ (∃ a, v = .ref a ∧ (∃ xs, SqT K H a xs) ∧ R (Itt K a) H) ∨ ∃ x, v = .str x ∧ R (Its x) H
theorem pi_any {X : Cx} {tg l : Expr} {tl : TE} (hl : PE X l tl) : PI X tg l (fun σ H R => tl σ H fun v H1 => rIt X.K v R H1) := by
  refine ⟨fun pins s σ H R I h => ?_⟩
  refine thn (hl.run pins s σ H _ I h) fun v s1 ⟨x, H1, I1, r1, q1⟩ => ?_
  rcases q1 with ⟨a, rfl, ⟨xs, hq⟩, q⟩ | ⟨a, rfl, ⟨xs, hq⟩, q⟩ | ⟨x, rfl, q⟩
  · cases r1
    obtain ⟨its, rv, p, hz⟩ := I1.list hq
    refine wpAny_pyIter_list p.isList ?_
    refine ⟨s1.heap.objs.size, [s1.heap.objs.size], _, _, H1, rfl, I1.kept (t' := s1.toks) fun b o e => Heap.get?_push_of_some _ e, turn_list a _, ⟨_, Heap.get?_push_size _ rfl, rfl, rfl⟩, fun b hb => ?_, q⟩
    have e : b = s1.heap.objs.size := by simpa using hb
    subst e
    exact I1.fpOk (Nat.le_refl _) (I1.hok.fresh (Nat.le_refl _))
  · cases r1
    obtain ⟨its, rv, p, hz⟩ := I1.tuple hq
    refine wpAny_pyIter_tuple (show s1.heap.IsTuple a its.toArray from p) ?_
    refine ⟨s1.heap.objs.size, [s1.heap.objs.size], _, _, H1, rfl, I1.kept (t' := s1.toks) fun b o e => Heap.get?_push_of_some _ e, turn_tuple a _, ⟨_, Heap.get?_push_size _ rfl, rfl, rfl⟩, fun b hb => ?_, q⟩
    have e : b = s1.heap.objs.size := by simpa using hb
    subst e
    exact I1.fpOk (Nat.le_refl _) (I1.hok.fresh (Nat.le_refl _))
  · obtain ⟨t, rfl⟩ := r1
    cases ha : x.cps.all (· < 128)
    · exact wpAny_pyIter_wide ha (pi_one (tk := s1.toks) I1 _ (turn_str _ x t "str_iterator" (.inr rfl)) ⟨_, Heap.get?_push_size _ rfl, rfl, rfl⟩ q)
    · exact wpAny_pyIter_ascii ha (pi_one (tk := s1.toks) I1 _ (turn_str _ x t "str_ascii_iterator" (.inl rfl)) ⟨_, Heap.get?_push_size _ rfl, rfl, rfl⟩ q)
/-- the items of a list, a tuple, a text -/
def itemsOf : D → Option (List D)
  | .list ds => some ds
  | .tuple ds => some ds
  | .str x => some (signs x)
  | _ => none
def fIt (f : FE) : FI := fun δ => (f δ).bind fun w => w.dat.bind fun x => T.of (itemsOf x)
def rng1 : D → R (List D)
  | .int j => if -(2 ^ 62) ≤ j ∧ j < 2 ^ 62 then .ret (nums 0 j.toNat) else .bad
  | _ => .bad
def rng2 : D → D → R (List D)
  | .int i, .int j => if -(2 ^ 62) ≤ i ∧ i < 2 ^ 62 ∧ -(2 ^ 62) ≤ j ∧ j < 2 ^ 62 then .ret (nums i (j - i).toNat) else .bad
  | _, _ => .bad
def fRng1 (f : FE) : FI := fun δ => (f δ).bind fun w => w.rd.bind rng1
def fRng2 (f g : FE) : FI := fun δ => (f δ).bind fun w => (g δ).bind fun u => w.rd.bind fun x => u.rd.bind fun y => rng2 x y
section
variable {X : Cx} {F : Fc} {tg e a b : Expr} {f : FE} {fa : FA} {p pos : Pos}
theorem pfi_any (h : PF X F e f) (hK : X.K = F.K.K := by rfl) : PFI X F tg e (fIt f) :=
  ⟨fun Z tk => pi_to (pi_any (h.pe Z tk)) fun σ H Q ⟨M, δ, n, ok, q⟩ => goE ok ((T.wp_bind _ _).mp q) fun w n1 v H1 q1 s1 ok1 v1 => by
    obtain ⟨x, rfl, hv, q2⟩ := dv_dat v1 ((T.wp_bind _ _).mp q1)
    obtain ⟨xs, e', q3⟩ := T.wp_of.mp q2
    rw [hK]
    match x, hv, e' with
    | .list ds, .lst h1 h2, e' =>
      cases e'
      exact .inl ⟨_, rfl, ⟨_, SqL.of (hid_to _ _ h1)⟩, q3 _ _ s1 ok1 (src_list h1 h2)⟩
    | .tuple ds, .tup h1 h2, e' =>
      cases e'
      exact .inr (.inl ⟨_, rfl, ⟨_, seqT hid_to h1⟩, q3 _ _ s1 ok1 (src_tup h1 h2)⟩)
    | .str x, .str _, e' =>
      cases e'
      exact .inr (.inr ⟨_, rfl, q3 _ _ s1 ok1 src_str⟩)⟩
theorem wp_if {ε α : Type} {c : Prop} [Decidable c] {a : T ε α} {n : Nat} {Q : α → Nat → Prop} {Z : ε → Nat → Prop} (q : (if c then a else .bad).wp n Q Z) : c ∧ a.wp n Q Z := by
  by_cases h : c
  · rw [if_pos h] at q
    exact ⟨h, q⟩
  · rw [if_neg h] at q
    exact q.elim
theorem pfi_rng1 (hg : Gl X "range") (hm : X.mg "range" = none) (ha : PF X F a f) (hs : starEach [a] X.env = [(false, eval a X.env)] := by rfl) : PFI X F tg (.Call (.Name "range" p) [a] [] pos) (fRng1 f) :=
  ⟨fun Z tk => pi_to (pi_range1 hg hm (pa_cons (ha.pe Z tk) pa_nil hs) hs) fun σ H Q ⟨M, δ, n, ok, q⟩ => goE ok ((T.wp_bind _ _).mp q) fun w n1 v H1 q1 s1 ok1 v1 => by
    obtain ⟨x, hr, q2⟩ := rv_rd v1 ((T.wp_bind _ _).mp q1)
    match x, hr, q2 with
    | .int j, hr, q2 =>
      obtain ⟨⟨l1, l2⟩, q3⟩ := wp_if q2
      exact ⟨j, by rw [hr.int], l1, l2, q3 _ _ s1 ok1 src_rng⟩⟩
theorem pfi_rng2 {g : FE} (hg : Gl X "range") (hm : X.mg "range" = none) (ha : PF X F a f) (hb : PF X F b g) (hs : starEach [a, b] X.env = (false, eval a X.env) :: starEach [b] X.env := by rfl) (hs2 : starEach [b] X.env = (false, eval b X.env) :: starEach [] X.env := by rfl) (hs3 : starEach [a, b] X.env = [(false, eval a X.env), (false, eval b X.env)] := by rfl) :
    PFI X F tg (.Call (.Name "range" p) [a, b] [] pos) (fRng2 f g) :=
  ⟨fun Z tk => pi_to (pi_range2 hg hm (pa_cons (ha.pe Z tk) (pa_cons (hb.pe Z tk) pa_nil hs2) hs) hs3 (by rw [hs2]; rfl)) fun σ H Q ⟨M, δ, n, ok, q⟩ => goE ok ((T.wp_bind _ _).mp q) fun w n1 v H1 q1 s1 ok1 v1 => goE ok1 ((T.wp_bind _ _).mp q1) fun u n2 v' H2 q2 s2 ok2 v2 => by
    obtain ⟨x, hr, q3⟩ := rv_rd (v1.kp s2) ((T.wp_bind _ _).mp q2)
    obtain ⟨y, hr2, q4⟩ := rv_rd v2 ((T.wp_bind _ _).mp q3)
    match x, y, hr, hr2, q4 with
    | .int i, .int j, hr, hr2, q4 =>
      obtain ⟨l, q5⟩ := wp_if q4
      exact ⟨i, j, by rw [hr.int, hr2.int], l, q5 _ _ (s1.trans s2) ok2 src_rng⟩⟩
/-- for i, x in enumerate(list) -/
def pairsE (xs : List D) : List D := (xs.zipIdx).map fun p => .tuple [.int (p.2 : Int), p.1]
theorem src_enum {K : Kx} {M : List Addr} {H : Hp} {a : Addr} {vs : List V} {ds : List D} (h1 : hid M H a = some (.lst vs)) (h2 : DVs K (hid M H) vs ds) : SrcD K M H (Ite K.K a) (pairsE ds) where
  goes := fun i M2 H2 hi s => by
    unfold pairsE at hi
    rw [List.length_map, List.length_zipIdx] at hi
    exact walk_enum.goes i H2 (by rw [h2.length]; exact hi) (SqL.of (hid_to _ _ (s _ _ h1)))
  stops := fun M2 H2 s => by
    unfold pairsE
    rw [List.length_map, List.length_zipIdx, ← h2.length]
    exact walk_enum.stops H2 (SqL.of (hid_to _ _ (s _ _ h1)))
  yields := fun i M2 H2 x H3 hi s fr y => by
    unfold pairsE at hi
    rw [List.length_map, List.length_zipIdx] at hi
    obtain ⟨T, x, z, rfl, h4, rfl, e1, e2⟩ := (walk_enum (xs := vs)).yields i H2 x H3 (by rw [h2.length]; exact hi) (SqL.of (hid_to _ _ (s _ _ h1))) y
    cases e1
    obtain ⟨d, e3, e4⟩ := h2.at' e2
    refine ⟨same1 h4, .tuple [.int (i : Int), d], ?_, .tup (SqT.of (hid_mk (fr T h4) upd_same)) (.cons (.int _) (.cons ((e4.same s).same (hid_same (same1 h4))) .nil))⟩
    unfold pairsE
    rw [List.getElem?_map, List.getElem?_zipIdx, e3]
    simp
def listOf : D → Option (List D)
  | .list ds => some ds
  | _ => none
def fEnum (f : FE) : FI := fun δ => (f δ).bind fun w => w.dat.bind fun x => (T.of (listOf x)).bind fun xs => .ret (pairsE xs)
theorem pfi_enum {elts : List Expr} {kk : Nat} {tpos : Pos} (hg : Gl X "enumerate") (hm : X.mg "enumerate" = none) (ha : PF X F a f) (hK : X.K = F.K.K := by rfl) (hs : starEach [a] X.env = [(false, eval a X.env)] := by rfl) : PFI X F (.Tuple elts kk tpos) (.Call (.Name "enumerate" p) [a] [] pos) (fEnum f) :=
  ⟨fun Z tk => pi_to (pi_enum hg hm (pa_cons (ha.pe Z tk) pa_nil hs) hs) fun σ H Q ⟨M, δ, n, ok, q⟩ => goE ok ((T.wp_bind _ _).mp q) fun w n1 v H1 q1 s1 ok1 v1 => by
    obtain ⟨x, rfl, hv, q2⟩ := dv_dat v1 ((T.wp_bind _ _).mp q1)
    obtain ⟨xs, e', q3⟩ := T.wp_of.mp ((T.wp_bind _ _).mp q2)
    rw [hK]
    match x, hv, e' with
    | .list ds, .lst (vs := vs) h1 h2, e' =>
      cases e'
      exact ⟨_, vs, rfl, SqL.of (hid_to _ _ h1), q3 _ _ s1 ok1 (src_enum h1 h2)⟩⟩
end
/-! ### loops -/
def oLoop (g : FS) : Out → RS Out
  | .nx δ => g δ
  | .ct δ => g δ
  | .bk δ => .ret (.nx δ)
  | .rt d => .ret (.rt d)
def loopL (tg : Tg) (b : FS) : List D → FS
  | [] => fun δ => .ret (.nx δ)
  | x :: xs => fun δ => (T.of (putT tg δ x)).bind fun δ1 => (b δ1).bind (oLoop (loopL tg b xs))
def sFor (fs : FI) (tg : Tg) (b : FS) : FS := fun δ => (lft δ (fs δ)).bind fun xs => loopL tg b xs δ
def whileN (c : FT) (b : FS) : Nat → FS
  | 0 => fun _ => .bad
  | k + 1 => fun δ => (lft δ (c δ)).bind fun t => if t = true then (b δ).bind (oLoop (whileN c b k)) else .ret (.nx δ)
def sWhile (c : FT) (b : FS) : FS := whileN c b 1000000
section
variable {X : Cx} {F : Fc} {e iter tg : Expr} {fs : FI} {b : FS} {body : List Stmt} {p : Tg} {pos : Pos}
theorem edOf_unmore {A : List Addr × Hp} {E : Ends} : ∀ o n, edOf F E o n → edOf (F.more A) E o n
  | .nx δ, n, q => fun M σ H ok => q M σ H ok.unmore
  | .rt d, n, q => fun v H r => q v H r.unmore
  | .bk δ, n, q => fun M σ H ok => q M σ H ok.unmore
  | .ct δ, n, q => fun M σ H ok => q M σ H ok.unmore
theorem pfs_for (hp : PassesOwn (model X.prog X.w) X.A X.env X.xe) (hc : X.calm = true) (hs : PFI X F tg iter fs) (ht : PFG X tg p) (hb : ∀ A, PFB X (F.more A) body b) (hK : X.K = F.K.K := by rfl)
    (hfo : ∀ x, foldedSetIterable iter X.env x = pure x := by intro _; rfl) : PFS X F (.For tg iter body [] pos) (sFor fs p b) := by
  refine ⟨fun Z tk => ⟨fun pins s σ H D I h => ?_⟩⟩
  have tkA : ∀ A, Lk X (F.more A) Z := fun A => tk.imp fun cls d σ H ⟨M, δ, n, x, ok, hx, z⟩ => ⟨M, δ, n, x, ok.unmore, hx, z⟩
  refine (ps_for (wi := tI F Z fs) (g := gOf X.K p) (tb := fun D σ H => ∃ A, tS (F.more A) Z b D σ H) hp hc (hs.pi Z tk) ht.pg ⟨fun pins s σ H D I ⟨A, h⟩ => ((hb A).ps Z (tkA A)).run pins s σ H D I h⟩ hfo).run pins s σ H D I ?_
  obtain ⟨M, δ, n, ok, q⟩ := h
  refine ⟨M, δ, n, ok, T.wp_mono (fun xs n1 q1 J H1 s1 ok1 src => ?_) (fun _ _ z => z) _ _ ((T.wp_mapEx _ _).mp ((T.wp_bind _ _).mp q))⟩
  refine ⟨fun j m σ2 H2 => m = xs.length - j ∧ j ≤ xs.length ∧ ∃ M2 δ2 n2, Ok (F.more (M, H1)) M2 σ2 H2 δ2 n2 ∧ (loopL p b (xs.drop j) δ2).wp n2 (edOf F D) (fun x n' => Z x.1 n' x.2), ⟨_, rfl, Nat.zero_le _, M, δ, n1, ok1.more, q1⟩, ?_⟩
  rintro j m σ2 H2 ⟨rfl, hj, M2, δ2, n2, ok2, q2⟩
  have se := ok2.seen
  by_cases hlt : j < xs.length
  · refine .inr ⟨src.goes j M2 H2 hlt se, fun σ' H' => ∃ M3 δ3 n3, Ok (F.more (M, H1)) M3 σ' H' δ3 n3 ∧ (loopL p b (xs.drop (j + 1)) δ3).wp n3 (edOf F D) (fun x n' => Z x.1 n' x.2), fun σ' H' ⟨M3, δ3, n3, ok3, q3⟩ => ⟨xs.length - (j + 1), by omega, rfl, hlt, M3, δ3, n3, ok3, q3⟩, fun y H' yl => ?_⟩
    obtain ⟨s3, d, e1, e2⟩ := src.yields j M2 H2 y H' hlt se (fun p hp => ok2.fresh hp) yl
    have ed : xs.drop j = d :: xs.drop (j + 1) := by
      rw [List.drop_eq_getElem_cons hlt]
      rw [List.getElem?_eq_getElem hlt] at e1
      rw [Option.some.inj e1]
    rw [ed] at q2
    obtain ⟨δ3, e3, q3⟩ := T.wp_of.mp ((T.wp_bind _ _).mp q2)
    refine gOf_run (F := F.more (M, H1)) hK (ok2.same s3) e2 e3 fun σ' ok' => ⟨(M, H1), M2, δ3, n2, ok', T.wp_mono (fun o n' q4 => ?_) (fun _ _ z => z) _ _ ((T.wp_bind _ _).mp q3)⟩
    match o, q4 with
    | .nx δ, q4 => exact fun M σ H ok => ⟨M, δ, n', ok, q4⟩
    | .rt d, q4 => exact fun v H r => q4 v H r.unmore
    | .bk δ, q4 => exact fun M σ H ok => q4 M σ H ok.unmore
    | .ct δ, q4 => exact fun M σ H ok => ⟨M, δ, n', ok, q4⟩
  · have ej : j = xs.length := by omega
    subst ej
    rw [List.drop_length] at q2
    exact .inl ⟨src.stops M2 H2 se, q2 M2 σ2 H2 ok2.unmore⟩
theorem pfs_while {c : Expr} {fc : FT} (hp : PassesOwn (model X.prog X.w) X.A X.env X.xe) (hc : PFT X F c fc) (hb : PFB X F body b) : PFS X F (.While c body [] pos) (sWhile fc b) := by
  refine ⟨fun Z tk => ps_to (ps_while hp (hc.pt Z tk) (hb.ps Z tk)) fun D σ H ⟨M, δ, n, ok, q⟩ => ?_⟩
  refine ⟨fun m σ H => ∃ M δ n, Ok F M σ H δ n ∧ (whileN fc b m δ).wp n (edOf F D) (fun x n' => Z x.1 n' x.2), ⟨1000000, M, δ, n, ok, q⟩, ?_⟩
  rintro m σ H ⟨M, δ, n, ok, q⟩
  cases m with
  | zero => exact q.elim
  | succ k =>
    refine lftT ok ((T.wp_bind _ _).mp q) fun t n1 H1 q1 s1 ok1 => iteMono (fun q2 => ?_) (fun q2 => q2 M σ H1 ok1) (wp_ite.mp q1)
    refine ⟨fun σ' H' => ∃ m', m' < k + 1 ∧ ∃ M δ n, Ok F M σ' H' δ n ∧ (whileN fc b m' δ).wp n (edOf F D) (fun x n' => Z x.1 n' x.2), fun σ' H' z => z, M, δ, n1, ok1, T.wp_mono (fun o n' q4 => ?_) (fun _ _ z => z) _ _ ((T.wp_bind _ _).mp q2)⟩
    match o, q4 with
    | .nx δ, q4 => exact fun M σ H ok => ⟨k, Nat.lt_succ_self _, M, δ, n', ok, q4⟩
    | .rt d, q4 => exact q4
    | .bk δ, q4 => exact q4
    | .ct δ, q4 => exact fun M σ H ok => ⟨k, Nat.lt_succ_self _, M, δ, n', ok, q4⟩
end
end FL

/-! Comprehensions. -/
namespace FL
open PySem PySem.Spec PyProof.Rows L2 Gd Fx Stp
theorem lk0 {X : Cx} {F : Fc} : Lk X F (fun _ _ _ => False) := fun _ _ x => by
  obtain ⟨_, _, _, _, _, _, _, _, _, _, _, _, _, _, _, _, _, _, _, _, _, _, z⟩ := x
  exact z.elim
def isOwn : Option (Option S) → Bool
  | some (some (.own _)) => true
  | _ => false
def noOwns (δ : Sl) (vs : List Nat) : Bool := vs.all fun i => !isOwn δ[i]?
def wipeD (δ : Sl) : List Nat → Sl
  | [] => δ
  | v :: vs => (wipeD δ vs).set v none
def fYes : FT := fun _ => .ret true
/-- for each item: the test, then what is made of it -/
def itemsL (tg : Tg) (δ : Sl) (ft : FT) (g : Sl → R (List D)) : List D → R (List D)
  | [] => .ret []
  | x :: xs => (T.of (putT tg δ x)).bind fun δ1 => (ft δ1).bind fun c => if c = true then (g δ1).bind fun ys => (itemsL tg δ ft g xs).bind fun zs => .ret (ys ++ zs) else itemsL tg δ ft g xs
def fOne (fe : FE) : Sl → R (List D) := fun δ => (fe δ).bind fun w => w.dat.bind fun d => .ret [d]
def fLc (fs : FI) (tg : Tg) (vs : List Nat) (ft : FT) (fe : FE) : FE := fun δ => if noOwns δ vs = true then (fs δ).bind fun xs => if xs.length ≤ 1000000 then ((itemsL tg (wipeD δ vs) ft (fOne fe) xs).noex).bind fun ys => .ret (.d (.list ys)) else .bad else .bad
section
variable {F : Fc} {M : List Addr} {σ : L2.St} {H H1 : Hp} {δ : Sl} {n n' : Nat} {Dd : Addr}
theorem Ok.wipe (h : Ok F M σ H δ n) : ∀ vs : List Nat, Ok F M (L2.wipe σ vs) H (wipeD δ vs) n
  | [] => h
  | v :: vs => (h.wipe vs).drop
/-- behind something that keeps all but the well -/
theorem Ok.back {H' : Hp} (h : Ok F M σ H δ n) (k : Kp F M H H') (ht : LamX.Tabs F.tb H') (ha : ∀ p ∈ M, ∃ o, H' p = some o) (hw : ∀ p, F.wl = some p → WlAt (hid M H') H' n' p) : Ok F M σ H' δ n' := by
  have nw : ∀ p, ∀ o, H p = some o → (∀ vs, o ≠ HO.lst vs) → ∀ q, F.wl = some q → p ≠ q.1 := fun p o e ho q eq z => by
    obtain ⟨_, _, _, t, r, h4, _⟩ := h.wel q eq
    rw [← z, e] at h4
    exact ho _ (Option.some.inj h4)
  have nw2 : ∀ p, (p ∉ F.M0 ∨ ∃ q, F.slf = some q ∧ p = q.1) → ∀ q, F.wl = some q → p ≠ q.1 := fun p h0 q eq z => by
    rcases h0 with h0 | ⟨r, er, z2⟩
    · exact h0 (by rw [z]; exact (h.wel q eq).1)
    · exact (h.sw r er).2 q eq (z.symm.trans z2)
  refine { len := h.len, val := fun i w z => let ⟨v, h1, h2⟩ := h.val i w z; ⟨v, h1, h2.kp k⟩, own := fun i x z => ?_, dis := h.dis, nol := h.nol, sub := h.sub, new := h.new, al := ha, ext := fun b o z => ?_, frm := fun p hp hq o ho z => k.f p (h.sub p hp) (fun q eq z2 => hq (.inl ⟨q, eq, z2⟩)) o ho (h.frm p hp hq o ho z), tab := ⟨ht, h.tab.2⟩, wel := fun p z => ⟨(h.wel p z).1, hw p z⟩, anc := fun A hA => ⟨fun b o z => ?_, (h.anc A hA).2⟩, sw := h.sw }
  · obtain ⟨p, o, h1, h2, h3, h4, h5, h6⟩ := h.own i x z
    exact ⟨p, o, h1, h2, h3, k.f p h2 (nw2 p (h3.imp (fun z => z.1) fun ⟨q, a, b, _⟩ => ⟨q, a, b⟩)) o h5.tbl h4, h5.same k.s, fun C dx fs eo => by
      obtain ⟨a, b, c⟩ := h6 C dx fs eo
      exact ⟨a, k.f dx a (nw dx _ b fun _ z => by cases z) _ (fun _ z => by cases z) b, c⟩⟩
  · obtain ⟨b1, b2⟩ := hid_some (h.ext b o z)
    refine hid_mk b1 ?_
    by_cases hm : b ∈ M
    · rcases h.new b hm with q | q
      · exact absurd q b1
      · rw [hid_at b1, q] at z
        cases z
    · exact (hid_some (k.s b o (hid_mk hm b2))).2
  · obtain ⟨b1, b2⟩ := hid_some ((h.anc A hA).1 b o z)
    refine hid_mk b1 ?_
    by_cases hm : b ∈ M
    · rcases (h.anc A hA).2 b hm with q | q
      · exact absurd q b1
      · rw [hid_at b1, q] at z
        cases z
    · exact (hid_some (k.s b o (hid_mk hm b2))).2
/-- behind a comprehension -/
theorem Ok.unlc {σ' : L2.St} {δ' : Sl} (h0 : Ok F M σ H1 δ n) (h : Ok F (Dd :: M) σ' H δ' n') (k : Kp F M H1 H) : Ok F M σ H δ n' := by
  have k2 : Same (hid (Dd :: M) H) (hid M H) := hid_sub fun p hp => List.mem_cons_of_mem _ hp
  refine h0.back k h.tab.1 (fun p hp => h.al p (List.mem_cons_of_mem _ hp)) fun p e => ?_
  obtain ⟨_, h2, h3, t, r, h4, h5⟩ := h.wel p e
  exact ⟨h2, k2 _ _ h3, t, r, h4, h5⟩
/-- an object kept apart, of no slot, is written -/
theorem Ok.poke {o o' : HO} {x : D} (h : Ok F M σ H δ n) (hp : Dd ∈ M) (h0 : Dd ∉ F.M0) (e : H Dd = some o) (hv : HV F.K (hid M H) o x) (hs : ∀ (j : Nat) (y : D), δ[j]? = some (some (S.own y)) → σ[j]? ≠ some (some (V.ref Dd))) : Ok F M σ (upd H Dd o') δ n :=
  h.upd_ ⟨hp, .inl h0, e, hv⟩ rfl (fun i u e => e) (fun i y e' => by
    obtain ⟨q, u, h1, h2, h3, h4, h5, h6⟩ := h.own i y e'
    exact ⟨q, u, h1, h2, h3, by rw [upd_ne fun z => hs i y e' (by rw [← z]; exact h1)]; exact h4, h5, h6⟩) h.dis
end
structure PFTs (X : Cx) (F : Fc) (ifs : List Expr) (f : FT) : Prop where
  pts : ∀ Z, Lk X F Z → PTs X ifs (tT F Z f)
section
variable {X : Cx} {F : Fc} {fs : FI} {ft : FT} {fe : FE} {p : Tg} {vs : List Nat} {elt iter tg : Expr} {ifs : List Expr} {scope : Scope} {pos : Pos}
theorem pts_to {t t' : TT} (h : PTs X ifs t) (k : ∀ σ H Q, t' σ H Q → t σ H Q) : PTs X ifs t' := ⟨fun pins s σ H Q I q => h.run pins s σ H Q I (k σ H Q q)⟩
theorem pfts_nil : PFTs X F [] fYes := ⟨fun Z _ => pts_to pts_nil fun σ H Q ⟨M, δ, n, ok, q⟩ => q H Kp.refl ok⟩
theorem pfts_one {c : Expr} (h : PFT X F c ft) : PFTs X F [c] ft := ⟨fun Z tk => pts_one (h.pt Z tk)⟩
theorem wp_items {tg : Tg} {δ : Sl} {g : Sl → R (List D)} {x : D} {xs : List D} {n : Nat} {Q : List D → Nat → Prop} {Z : Xn → Nat → Prop} (q : (itemsL tg δ ft g (x :: xs)).wp n Q Z) : ∃ δ1, putT tg δ x = some δ1 ∧ (ft δ1).wp n (fun c n1 => if c = true then (g δ1).wp n1 (fun ys n2 => (itemsL tg δ ft g xs).wp n2 (fun zs n3 => Q (ys ++ zs) n3) Z) Z else (itemsL tg δ ft g xs).wp n1 Q Z) Z := by
  obtain ⟨δ1, e, q1⟩ := T.wp_of.mp ((T.wp_bind _ _).mp q)
  refine ⟨δ1, e, T.wp_mono (fun c n1 q2 => iteMono (fun q3 => ?_) (fun q3 => q3) (wp_ite.mp q2)) (fun _ _ z => z) _ _ ((T.wp_bind _ _).mp q1)⟩
  exact T.wp_mono (fun ys n2 q4 => (T.wp_bind _ _).mp q4) (fun _ _ z => z) _ _ ((T.wp_bind _ _).mp q3)
theorem wipeD_at {δ : Sl} {s : S} {j : Nat} : ∀ {vs : List Nat}, (wipeD δ vs)[j]? = some (some s) → δ[j]? = some (some s)
  | [], h => h
  | v :: vs, h => by
    rcases set_cases h with ⟨_, e, _⟩ | ⟨_, e⟩
    · cases e
    · exact wipeD_at e
theorem lc_run {Z : ZF} (hsub : p.sub vs = true) (hK : X.K = F.K.K) :
    ∀ σ H Q, tE F Z (fLc fs p vs ft fe) σ H Q → tLc (tI F Z fs) (gOf X.K p) (tT F (fun _ _ _ => False) ft) (tE F (fun _ _ _ => False) fe) vs σ H Q := fun σ H Q ⟨M, δ, n, ok, q0⟩ => by
  obtain ⟨hno, q⟩ := wp_if q0
  refine ⟨M, δ, n, ok, T.wp_mono (fun xs n1 q1 J H1 s1 ok1 src => ?_) (fun _ _ z => z) _ _ ((T.wp_bind _ _).mp q)⟩
  obtain ⟨hl, q1⟩ := wp_if q1
  have q2 := (T.wp_noex _ _).mp ((T.wp_bind _ _).mp q1)
  intro Dd hD
  obtain ⟨okD, sD⟩ := ok1.add (p := Dd) (o := .lst []) hD (same1 hD) upd_same
  have okW := okD.wipe vs
  have hDM : Dd ∉ M := ok1.fresh hD
  have hD0 : Dd ∉ F.M0 := fun z => hDM (ok1.sub Dd z)
  have hDw : ∀ q, F.wl = some q → Dd ≠ q.1 := fun q e z => hD0 (by rw [z]; exact (ok1.wel q e).1)
  have hDs : ∀ (j : Nat) (y : D), (wipeD δ vs)[j]? = some (some (S.own y)) → (L2.wipe σ vs)[j]? ≠ some (some (V.ref Dd)) := fun j y e e2 => by
    have e2' := (wipe_some e2).1
    obtain ⟨p, o, g1, g2, _⟩ := ok1.own j y (wipeD_at e)
    rw [e2'] at g1
    cases g1
    exact hDM g2
  let Qe : List D → Nat → Prop := fun ys n2 => ∀ v H', Kp F M H H' → Ok F M σ H' δ n2 → VOk F M H' v (.d (.list ys)) → Q v H'
  let St : Nat → Hp → Prop := fun j H2 => ∃ (acc : List D) (n2 : Nat) (vl : List V), Ok F (Dd :: M) (L2.wipe σ vs) H2 (wipeD δ vs) n2 ∧ H2 Dd = some (.lst vl) ∧ DVs F.K (hid (Dd :: M) H2) vl acc ∧ acc.length ≤ j ∧ Same (hid M H1) (hid (Dd :: M) H2) ∧ (∀ p ∈ M, (∀ q, F.wl = some q → p ≠ q.1) → ∀ o, (∀ ps, o ≠ HO.tbl ps) → H1 p = some o → H2 p = some o) ∧
    (itemsL p (wipeD δ vs) ft (fOne fe) (xs.drop j)).wp n2 (fun ys n3 => Qe (acc ++ ys) n3) (fun _ _ => False)
  refine ⟨fun j m H2 => m = xs.length - j ∧ j ≤ xs.length ∧ St j H2, ⟨_, rfl, Nat.zero_le _, [], n1, [], okW, upd_same, .nil, Nat.le_refl _, sD, fun p hp _ o _ e => same1 hD _ _ e, q2⟩, ?_⟩
  rintro j m H2 ⟨rfl, hj, acc, n2, vl, ok2, e2, v2, hacc, se, sf, q3⟩
  by_cases hlt : j < xs.length
  · refine .inr ⟨src.goes j _ H2 hlt se, St (j + 1), fun H' st => ⟨xs.length - (j + 1), by omega, rfl, hlt, st⟩, fun y H' yl => ?_⟩
    obtain ⟨s3, d, e1, d1⟩ := src.yields j _ H2 y H' hlt se (fun p hp => ok2.fresh hp) yl
    have ed : xs.drop j = d :: xs.drop (j + 1) := by
      rw [List.drop_eq_getElem_cons hlt]
      rw [List.getElem?_eq_getElem hlt] at e1
      rw [Option.some.inj e1]
    rw [ed] at q3
    obtain ⟨δ1, e3, q4⟩ := wp_items q3
    have hww : ∀ {E : L2.St → Hp → Prop}, gOf X.K p y (L2.wipe σ vs) H' E → gOf X.K p y (L2.wipe σ vs) H' fun σ2 H2 => L2.wipe σ2 vs = L2.wipe σ vs ∧ E σ2 H2 := fun h => by
      have := gOf_keep hsub h
      rw [wipe_wipe σ vs vs fun _ z => z] at this
      exact this
    -- what the target leaves, and the state without it
    have key : ∀ H4, Kp F (Dd :: M) H' H4 → ∀ n4 {σ2 : L2.St}, Ok F (Dd :: M) σ2 H4 δ1 n4 → Ok F (Dd :: M) (L2.wipe σ vs) H4 (wipeD δ vs) n4 := fun H4 kp n4 σ2 ok4 => by
      refine (ok2.same s3).back kp ok4.tab.1 ok4.al fun q eq => (ok4.wel q eq).2
    have e2' : H' Dd = some (.lst vl) := s3 _ _ e2
    have ntl : ∀ ps, HO.lst vl ≠ HO.tbl ps := fun ps z => by cases z
    refine hww (gOf_run hK (ok2.same s3) d1 e3 fun σ2 okT => ?_)
    refine goT okT q4 fun c n3 H3 q5 s4 ok4 => iteMono (fun q6 => ?_) (fun q6 => ?_) q5
    · refine goE ok4 ((T.wp_bind _ _).mp q6) fun w n4 v H4 q7 s5 ok5 v5 => ?_
      obtain ⟨x, rfl, hv, q8⟩ := dv_dat v5 ((T.wp_bind _ _).mp q7)
      have kp := s4.trans s5
      have okB := key H4 kp n4 ok5
      have sD : Same (hid (Dd :: M) H2) (hid (Dd :: M) H4) := (hid_same s3).trans kp.s
      have e4 : H4 Dd = some (.lst vl) := kp.f _ (List.mem_cons_self ..) hDw _ ntl e2'
      have hpk : hid (Dd :: M) (upd H4 Dd (.lst (vl ++ [v]))) = hid (Dd :: M) H4 := hid_poke (List.mem_cons_self ..)
      refine ⟨vl, e4, by rw [v2.length]; exact Nat.lt_of_le_of_lt hacc (Nat.lt_of_lt_of_le (Nat.lt_of_lt_of_le hlt hl) (by decide)), acc ++ [x], n4, vl ++ [v], okB.poke (List.mem_cons_self ..) hD0 e4 (.lst (v2.same sD)) hDs, upd_same, ?_, by rw [List.length_append]; exact Nat.succ_le_succ hacc, ?_, fun p hp hw o ho e => ?_, ?_⟩
      · rw [hpk]
        exact (v2.same sD).append (.cons hv .nil)
      · rw [hpk]
        exact se.trans sD
      · rw [upd_ne fun z => hDM (by rw [← z]; exact hp)]
        exact kp.f p (List.mem_cons_of_mem _ hp) hw o ho (s3 _ _ (sf p hp hw o ho e))
      · refine T.wp_mono (fun zs n5 q9 => ?_) (fun _ _ z => z) _ _ q8
        rw [List.append_assoc]
        exact q9
    · have sD : Same (hid (Dd :: M) H2) (hid (Dd :: M) H3) := (hid_same s3).trans s4.s
      exact ⟨acc, n3, vl, key H3 s4 n3 ok4, s4.f _ (List.mem_cons_self ..) hDw _ ntl e2', v2.same sD, Nat.le_succ_of_le hacc, se.trans sD, fun p hp hw o ho e => s4.f p (List.mem_cons_of_mem _ hp) hw o ho (s3 _ _ (sf p hp hw o ho e)), q6⟩
  · have ej : j = xs.length := by omega
    subst ej
    rw [List.drop_length] at q3
    have sM : Same (hid M H1) (hid M H2) := se.trans (hid_sub fun p hp => List.mem_cons_of_mem _ hp)
    have kM : Kp F M H1 H2 := ⟨sM, sf⟩
    have q4 : Qe (acc ++ []) n2 := q3
    rw [List.append_nil] at q4
    exact .inl ⟨src.stops _ H2 se, q4 (.ref Dd) H2 (s1.trans kM) (ok1.unlc ok2 kM) (.lst (hid_mk hDM e2) (v2.same (hid_sub fun p hp => List.mem_cons_of_mem _ hp)))⟩
theorem pf_lc {own : List (Str × Nat)} (hc : X.calm = true) (hN : X.N.Nodup) (hs : PFI X F tg iter fs) (ok : BlkOk X.N X.env.scope scope own) (hv : own.map (·.2) = vs) (hsub : p.sub vs = true)
    (hg : ∀ (s : Shared) (H : Hp) (C : Addr) (cl : List (Str × Addr)) (fp : List Addr), PFG (X.blk s H scope (compEnvC scope cl C X.env) fp) tg p) (ht : ∀ (s : Shared) (H : Hp) (C : Addr) (cl : List (Str × Addr)) (fp : List Addr), PFTs (X.blk s H scope (compEnvC scope cl C X.env) fp) F ifs ft)
    (he : ∀ (s : Shared) (H : Hp) (C : Addr) (cl : List (Str × Addr)) (fp : List Addr), PF (X.blk s H scope (compEnvC scope cl C X.env) fp) F elt fe) (hK : X.K = F.K.K := by rfl) (hfo : ∀ x, foldedSetIterable iter X.env x = pure x := by intro _; rfl) :
    PF X F (.ListComp elt [⟨tg, iter, ifs, 0⟩] scope pos) (fLc fs p vs ft fe) := by
  subst hv
  exact ⟨fun Z tk => pe_to (pe_lc (own := own) (g := gOf X.K p) hc hN (hs.pi Z tk) ok (fun s H C cl fp => (hg s H C cl fp).pg) (fun s H C cl fp => (ht s H C cl fp).pts _ lk0) (fun s H C cl fp => (he s H C cl fp).pe _ lk0) hfo) (lc_run hsub hK)⟩
/-- x = [..] on one row -/
theorem pfs_setLc {i : Nat} {y : Str} {py spos : Pos} {own : List (Str × Nat)} (hc : X.calm = true) (hN : X.N.Nodup) (hy : X.N[i]? = some y) (hyl : X.env.scope.names.lookup y = some .local)
    (hsw : swapsWith (.ListComp elt [⟨tg, iter, ifs, 0⟩] scope pos) (some (.Name y py)) spos.line X.env = pure true) (hs : PFI X F tg iter fs) (ok : BlkOk X.N X.env.scope scope own) (hv : own.map (·.2) = vs) (hsub : p.sub vs = true)
    (hg : ∀ (s : Shared) (H : Hp) (C : Addr) (cl : List (Str × Addr)) (fp : List Addr), PFG (X.blk s H scope (compEnvC scope cl C X.env) fp) tg p) (ht : ∀ (s : Shared) (H : Hp) (C : Addr) (cl : List (Str × Addr)) (fp : List Addr), PFTs (X.blk s H scope (compEnvC scope cl C X.env) fp) F ifs ft)
    (he : ∀ (s : Shared) (H : Hp) (C : Addr) (cl : List (Str × Addr)) (fp : List Addr), PF (X.blk s H scope (compEnvC scope cl C X.env) fp) F elt fe) (hK : X.K = F.K.K := by rfl) (hfo : ∀ x, foldedSetIterable iter X.env x = pure x := by intro _; rfl) :
    PFS X F (.Assign [.Name y py] (.ListComp elt [⟨tg, iter, ifs, 0⟩] scope pos) spos) (sSet i (fLc fs p vs ft fe)) := by
  subst hv
  refine ⟨fun Z tk => ps_to (ps_setLc (own := own) (g := gOf X.K p) hc hN hy hyl hsw (hs.pi Z tk) ok (fun s H C cl fp => (hg s H C cl fp).pg) (fun s H C cl fp => (ht s H C cl fp).pts _ lk0) (fun s H C cl fp => (he s H C cl fp).pe _ lk0) hfo) fun D σ H ⟨M, δ, n, ok, q⟩ => ?_⟩
  refine lc_run hsub hK σ H _ (lftE ok ((T.wp_bind _ _).mp q) fun w n1 v H1 q1 s1 ok1 v1 => ?_)
  obtain ⟨x, rfl, hv, q2⟩ := lft_dat v1 ((T.wp_bind _ _).mp q1)
  exact q2 M _ H1 (ok1.set (w := .d x) hv fun _ => nol_d)
end
end FL

/-! Built-ins, indices, slices. -/
namespace FL
open PySem PySem.Spec PyProof.Rows L2 Gd Fx Stp Rp
/-! ### texts in order -/
def insS (x : Str) : List Str → List Str
  | [] => [x]
  | y :: ys => if y.cps.toList < x.cps.toList then y :: insS x ys else x :: y :: ys
def sortS : List Str → List Str
  | [] => []
  | x :: xs => insS x (sortS xs)
abbrev leS (x y : Str) : Prop := x.cps.toList ≤ y.cps.toList
theorem str_ext {x y : Str} (h : x.cps.toList = y.cps.toList) : x = y := by
  obtain ⟨⟨l⟩⟩ := x
  obtain ⟨⟨m⟩⟩ := y
  simp only at h
  rw [h]
theorem insS_perm (x : Str) : ∀ ys, (insS x ys).Perm (x :: ys)
  | [] => .refl _
  | y :: ys => by
    unfold insS
    split
    · exact ((insS_perm x ys).cons y).trans (.swap x y ys)
    · exact .refl _
theorem sortS_perm : ∀ xs, (sortS xs).Perm xs
  | [] => .refl _
  | x :: xs => (insS_perm x _).trans ((sortS_perm xs).cons x)
theorem insS_pw (x : Str) : ∀ ys : List Str, ys.Pairwise leS → (insS x ys).Pairwise leS
  | [], _ => List.pairwise_singleton _ _
  | y :: ys, h => by
    obtain ⟨h1, h2⟩ := List.pairwise_cons.mp h
    unfold insS
    split
    · rename_i c
      refine List.pairwise_cons.mpr ⟨fun z hz => ?_, insS_pw x ys h2⟩
      rcases List.mem_cons.mp ((insS_perm x ys).subset hz) with rfl | hz
      · exact List.le_of_lt c
      · exact h1 z hz
    · rename_i c
      have c' : leS x y := List.not_lt.mp c
      refine List.pairwise_cons.mpr ⟨fun z hz => ?_, h⟩
      rcases List.mem_cons.mp hz with rfl | hz
      · exact c'
      · exact List.le_trans c' (h1 z hz)
theorem sortS_pw : ∀ xs, (sortS xs).Pairwise leS
  | [] => .nil
  | x :: xs => insS_pw x _ (sortS_pw xs)
theorem sortS_eq {xs ys : List Str} (p : ys.Perm xs) (h : ys.Pairwise leS) : ys = sortS xs :=
  List.Perm.eq_of_pairwise (fun a b _ _ h1 h2 => str_ext (List.le_antisymm h1 h2)) h (sortS_pw xs) (p.trans (sortS_perm xs).symm)
theorem rising_pw : ∀ (ys : List Str) (p : Str), risingS p ys = true → (p :: ys).Pairwise leS
  | [], p, _ => List.pairwise_singleton _ _
  | x :: r, p, h => by
    have h' : (!ltCps x.cps.toList p.cps.toList && risingS x r) = true := h
    rw [Bool.and_eq_true_iff, Bool.not_eq_true'] at h'
    have hx : leS p x := List.not_lt.mp fun z => by
      have : ltCps x.cps.toList p.cps.toList = true := by
        rw [ltCps_eq]
        exact decide_eq_true z
      rw [this] at h'
      cases h'.1
    have t := rising_pw r x h'.2
    refine List.pairwise_cons.mpr ⟨fun z hz => ?_, t⟩
    rcases List.mem_cons.mp hz with rfl | hz
    · exact hx
    · exact List.le_trans hx ((List.pairwise_cons.mp t).1 z hz)
theorem sorted_is {xs ys : List Str} (p : ys.Perm xs) (h : sortedS ys = true) : ys = sortS xs := by
  refine sortS_eq p ?_
  cases ys with
  | nil => exact .nil
  | cons y ys => exact rising_pw ys y h
/-! ### calls of built-ins -/
def CallF (X : Cx) (K : Kx) (f : Value) (g : List D → Option D) : Prop := X.K = K.K → ∃ r, CallR X f r ∧ ∀ (M : List Addr) (H : Hp) (vs : List V) (as : List D) (c : D) (Q : VK), (∀ p, H p = none → p ∉ M) → RVs K M H vs as →
  g as = some c → (∀ w H', Same H H' → DV K (hid M H') w c → Q w H') → r vs H Q
def fCB (g : List D → Option D) (fa : FA) : FE := fun δ => (fa δ).bind fun ws => (rdL ws).bind fun xs => (T.of (g xs)).bind fun d => .ret (.d d)
section
variable {X : Cx} {F : Fc} {K : Kx} {e : Expr} {es : List Expr} {fa : FA} {f : FE} {p pos : Pos} {x : Str} {g : List D → Option D}
theorem RVs.one {M : List Addr} {H : Hp} {vs : List V} {a : D} (h : RVs K M H vs [a]) : ∃ v, vs = [v] ∧ RV K M H v a := by
  cases h with
  | cons h t =>
    cases t
    exact ⟨_, rfl, h⟩
theorem RVs.two {M : List Addr} {H : Hp} {vs : List V} {a b : D} (h : RVs K M H vs [a, b]) : ∃ v u, vs = [v, u] ∧ RV K M H v a ∧ RV K M H u b := by
  cases h with
  | cons h t =>
    obtain ⟨u, rfl, h2⟩ := t.one
    exact ⟨_, _, rfl, h, h2⟩
theorem cb_to {r : List V → Hp → VK → Prop} {Z : ZF}
    (hr : ∀ (M : List Addr) (H : Hp) (vs : List V) (as : List D) (c : D) (Q : VK), (∀ p, H p = none → p ∉ M) → RVs F.K M H vs as → g as = some c → (∀ w H', Same H H' → DV F.K (hid M H') w c → Q w H') → r vs H Q) :
    ∀ σ H Q, tE F Z (fCB g fa) σ H Q → tCB r (tA F Z fa) σ H Q := fun σ H Q ⟨M, δ, n, ok, q⟩ => goA ok ((T.wp_bind _ _).mp q) fun ws n1 vs H1 q1 s1 ok1 v1 => by
  obtain ⟨xs, hx, q2⟩ := rvs_rd v1 ((T.wp_bind _ _).mp q1)
  obtain ⟨d, e, q3⟩ := T.wp_of.mp ((T.wp_bind _ _).mp q2)
  exact hr M H1 vs xs d Q (fun p hp => ok1.fresh hp) hx e fun w H' s dv => q3 w H' (s1.trans (Kp.of s)) (ok1.same s) dv
theorem pf_callB {id : String} (hc : CallF X F.K (.builtin id) g) (hg : Gl X x) (hm : X.mg x = none) (hv : bootBuiltins x = some (.builtin id)) (ha : PFA X F (e :: es) fa) (hK : X.K = F.K.K := by rfl) (hn : x ≠ "__name__" := by decide) (hdb : (x == ("__debug__" : Str)) = false := by decide)
    (he : starEach (e :: es) X.env = (false, eval e X.env) :: starEach es X.env := by rfl) (hpl : (backTo pos (starEach es X.env)).any (·.1) = false := by rfl) : PF X F (.Call (.Name x p) (e :: es) [] pos) (fCB g fa) := by
  obtain ⟨r, h1, h2⟩ := hc hK
  exact ⟨fun Z tk => pe_to (pe_callB h1 hg hm hv (ha.pa Z tk) hn hdb he hpl) (cb_to h2)⟩
theorem pf_callTy {T : String} (hc : CallF X F.K (.type T) g) (hg : Gl X x) (hm : X.mg x = none) (hv : bootBuiltins x = some (.type T)) (ha : PFA X F (e :: es) fa) (hK : X.K = F.K.K := by rfl) (hn : x ≠ "__name__" := by decide) (hdb : (x == ("__debug__" : Str)) = false := by decide)
    (he : starEach (e :: es) X.env = (false, eval e X.env) :: starEach es X.env := by rfl) (hpl : (backTo pos (starEach es X.env)).any (·.1) = false := by rfl) : PF X F (.Call (.Name x p) (e :: es) [] pos) (fCB g fa) := by
  obtain ⟨r, h1, h2⟩ := hc hK
  exact ⟨fun Z tk => pe_to (pe_callTy h1 hg hm hv (ha.pa Z tk) hn hdb he hpl) (cb_to h2)⟩
def gLen : List D → Option D
  | [.list xs] => some (.int xs.length)
  | [.tuple xs] => some (.int xs.length)
  | [.str x] => if x.length ≤ 1000000 then some (.int x.length) else none
  | [.dict es] => some (.int es.length)
  | _ => none
theorem DVk.length {G : Hp} : ∀ {vs : List (Key × V)} {ds : List (D × D)}, DVk K G vs ds → vs.length = ds.length
  | _, _, .nil => rfl
  | _, _, .cons _ t => congrArg (· + 1) t.length
theorem CallR.or {f : Value} {r r' : List V → Hp → VK → Prop} (h : CallR X f r) (h' : CallR X f r') : CallR X f (fun vs H Q => r vs H Q ∨ r' vs H Q) := fun pins s σ H vs us Q I rv q => q.elim (h pins s σ H vs us Q I rv) (h' pins s σ H vs us Q I rv)
def rDicts : List D → Option D
  | [.list xs] => some (.int xs.length)
  | [.tuple xs] => some (.int xs.length)
  | [.str x] => if x.length ≤ 1000000 then some (.int x.length) else none
  | _ => none
theorem cd_len : CallF X K (.builtin "len") rDicts := fun hK => by
  refine ⟨_, call_len, fun M H vs as c Q fr ha e q => ?_⟩
  match as, ha, e with
  | [.list xs], ha, e =>
    obtain ⟨v, rfl, h⟩ := ha.one
    cases e
    obtain ⟨a, vs, rfl, h1, h2⟩ := h.list
    exact ⟨.ref a, vs.length, rfl, Or.inl ⟨vs, SqL.of h1, rfl⟩, q _ H (Same.refl _) (by rw [h2.length]; exact .int _)⟩
  | [.tuple xs], ha, e =>
    obtain ⟨v, rfl, h⟩ := ha.one
    cases e
    obtain ⟨a, vs, rfl, h1, h2, _⟩ := h.tuple
    exact ⟨.ref a, vs.length, rfl, Or.inr ⟨vs, by rw [hK]; exact h1, rfl⟩, q _ H (Same.refl _) (by rw [h2.length]; exact .int _)⟩
  | [.str x], ha, e =>
    obtain ⟨v, rfl, h⟩ := ha.one
    obtain ⟨h1, rfl⟩ := iteSome e
    cases h.str
    exact ⟨.str x, x.length, rfl, ⟨big h1, rfl⟩, q _ H (Same.refl _) (.int _)⟩
def gAbs : List D → Option D
  | [.int i] => some (.int (if i < 0 then -i else i))
  | _ => none
theorem cd_abs : CallF X K (.builtin "abs") gAbs := fun hK => by
  refine ⟨_, call_abs, fun M H vs as c Q fr ha e q => ?_⟩
  match as, ha, e with
  | [.int i], ha, e =>
    obtain ⟨v, rfl, h⟩ := ha.one
    cases e
    cases h.int
    exact ⟨_, rfl, q _ H (Same.refl _) (.int _)⟩
def gInt : List D → Option D
  | [.int i] => some (.int i)
  | [.bool b] => some (.int (if b then 1 else 0))
  | _ => none
theorem cd_int : CallF X K (.type "int") gInt := fun hK => by
  refine ⟨_, call_int1, fun M H vs as c Q fr ha e q => ?_⟩
  match as, ha, e with
  | [.int i], ha, e =>
    obtain ⟨v, rfl, h⟩ := ha.one
    cases e
    cases h.int
    exact .inl ⟨_, rfl, q _ H (Same.refl _) (.int _)⟩
  | [.bool b], ha, e =>
    obtain ⟨v, rfl, h⟩ := ha.one
    cases e
    cases h.bool
    exact .inr ⟨_, rfl, q _ H (Same.refl _) (.int _)⟩
def gMax : List D → Option D
  | [.int i, .int j] => some (.int (if j > i then j else i))
  | _ => none
theorem cd_max (hc : X.calm = true) : CallF X K (.builtin "max") gMax := fun hK => by
  refine ⟨_, call_max2 hc, fun M H vs as c Q fr ha e q => ?_⟩
  match as, ha, e with
  | [.int i, .int j], ha, e =>
    obtain ⟨v, u, rfl, h1, h2⟩ := ha.two
    cases e
    cases h1.int
    cases h2.int
    exact ⟨_, _, rfl, q _ H (Same.refl _) (.int _)⟩
def gMin : List D → Option D
  | [.int i, .int j] => some (.int (if j < i then j else i))
  | _ => none
theorem cd_min (hc : X.calm = true) : CallF X K (.builtin "min") gMin := fun hK => by
  refine ⟨_, call_min2 hc, fun M H vs as c Q fr ha e q => ?_⟩
  match as, ha, e with
  | [.int i, .int j], ha, e =>
    obtain ⟨v, u, rfl, h1, h2⟩ := ha.two
    cases e
    cases h1.int
    cases h2.int
    exact ⟨_, _, rfl, q _ H (Same.refl _) (.int _)⟩
def bools : List D → Option (List Bool)
  | [] => some []
  | .bool b :: r => (bools r).map (b :: ·)
  | _ => none
theorem bools_ok {G : Hp} : ∀ {ds : List D} {vs : List V} {bs : List Bool}, DVs K G vs ds → bools ds = some bs → vs = bs.map V.bl
  | [], _, bs, .nil, e => by cases e; rfl
  | d :: ds, _, bs, .cons h t, e => by
    cases d <;> try (cases e)
    cases h
    obtain ⟨cs, e1, rfl⟩ := Option.map_eq_some_iff.mp e
    rw [bools_ok t e1]
    rfl
def gAll : List D → Option D
  | [.list ds] => (bools ds).map fun bs => .bool (bs.all id)
  | _ => none
theorem cd_all (hc : X.calm = true) : CallF X K (.builtin "all") gAll := fun hK => by
  refine ⟨_, cr_all hc, fun M H vs as c Q fr ha e q => ?_⟩
  match as, ha, e with
  | [.list ds], ha, e =>
    obtain ⟨v, rfl, h⟩ := ha.one
    obtain ⟨bs, e1, rfl⟩ := Option.map_eq_some_iff.mp e
    obtain ⟨a, vs, rfl, h1, h2⟩ := h.list
    rw [bools_ok h2 e1] at h1
    exact ⟨_, bs, rfl, SqL.of h1, q _ H (Same.refl _) (.bl _)⟩
def gAny : List D → Option D
  | [.list ds] => (bools ds).map fun bs => .bool (bs.any id)
  | _ => none
theorem cd_any (hc : X.calm = true) : CallF X K (.builtin "any") gAny := fun hK => by
  refine ⟨_, cr_any hc, fun M H vs as c Q fr ha e q => ?_⟩
  match as, ha, e with
  | [.list ds], ha, e =>
    obtain ⟨v, rfl, h⟩ := ha.one
    obtain ⟨bs, e1, rfl⟩ := Option.map_eq_some_iff.mp e
    obtain ⟨a, vs, rfl, h1, h2⟩ := h.list
    rw [bools_ok h2 e1] at h1
    exact ⟨_, bs, rfl, SqL.of h1, q _ H (Same.refl _) (.bl _)⟩
def gTuple : List D → Option D
  | [.list ds] => some (.tuple ds)
  | [.tuple ds] => some (.tuple ds)
  | _ => none
theorem cd_tuple : CallF X K (.type "tuple") gTuple := fun hK => by
  refine ⟨_, call_tuple_of, fun M H vs as c Q fr ha e q => ?_⟩
  match as, ha, e with
  | [.list ds], ha, e =>
    obtain ⟨v, rfl, h⟩ := ha.one
    cases e
    obtain ⟨a, vs, rfl, h1, h2⟩ := h.list
    exact ⟨_, vs, rfl, .inl ⟨SqL.of h1, fun p hp => q _ _ (same1 hp) (.tup (SqT.of (hid_mk (fr p hp) upd_same)) (h2.same (hid_same (same1 hp))))⟩⟩
  | [.tuple ds], ha, e =>
    obtain ⟨v, rfl, h⟩ := ha.one
    cases e
    obtain ⟨a, vs, rfl, h1, h2, t⟩ := h.tuple
    exact ⟨_, vs, rfl, .inr ⟨by rw [hK]; exact h1, q _ H (Same.refl _) t⟩⟩
def gList : List D → Option D
  | [.list ds] => some (.list ds)
  | [.tuple ds] => some (.list ds)
  | _ => none
theorem cd_list : CallF X K (.type "list") gList := fun hK => by
  refine ⟨_, call_list_of, fun M H vs as c Q fr ha e q => ?_⟩
  match as, ha, e with
  | [.list ds], ha, e =>
    obtain ⟨v, rfl, h⟩ := ha.one
    cases e
    obtain ⟨a, vs, rfl, h1, h2⟩ := h.list
    exact ⟨_, vs, rfl, .inl (SqL.of h1), fun p hp => q _ _ (same1 hp) (.lst (hid_mk (fr p hp) upd_same) (h2.same (hid_same (same1 hp))))⟩
  | [.tuple ds], ha, e =>
    obtain ⟨v, rfl, h⟩ := ha.one
    cases e
    obtain ⟨a, vs, rfl, h1, h2, t⟩ := h.tuple
    exact ⟨_, vs, rfl, .inr (by rw [hK]; exact h1), fun p hp => q _ _ (same1 hp) (.lst (hid_mk (fr p hp) upd_same) (h2.same (hid_same (same1 hp))))⟩
def txts : List D → Option (List Str)
  | [] => some []
  | .str b :: r => (txts r).map (b :: ·)
  | _ => none
theorem txts_ok {G : Hp} : ∀ {ds : List D} {vs : List V} {bs : List Str}, DVs K G vs ds → txts ds = some bs → vs = bs.map V.str
  | [], _, bs, .nil, e => by cases e; rfl
  | d :: ds, _, bs, .cons h t, e => by
    cases d <;> try (cases e)
    cases h
    obtain ⟨cs, e1, rfl⟩ := Option.map_eq_some_iff.mp e
    rw [txts_ok t e1]
    rfl
theorem dvStrs {G : Hp} : ∀ ys : List Str, DVs K G (ys.map V.str) (ys.map D.str)
  | [] => .nil
  | y :: ys => .cons (.str y) (dvStrs ys)
def gSorted : List D → Option D
  | [.list ds] => (txts ds).bind fun xs => if xs.length < 64 then some (.list ((sortS xs).map .str)) else none
  | _ => none
theorem cd_sorted : CallF X K (.builtin "sorted") gSorted := fun hK => by
  refine ⟨_, cr_sortedS, fun M H vs as c Q fr ha e q => ?_⟩
  match as, ha, e with
  | [.list ds], ha, e =>
    obtain ⟨v, rfl, h⟩ := ha.one
    obtain ⟨xs, e1, e2⟩ := Option.bind_eq_some_iff.mp e
    obtain ⟨l, rfl⟩ := iteSome e2
    obtain ⟨a, vs, rfl, h1, h2⟩ := h.list
    rw [txts_ok h2 e1] at h1
    exact ⟨_, xs, rfl, SqL.of h1, l, fun ys p pm so hp => by
      rw [sorted_is pm so]
      exact q _ _ (same1 hp) (.lst (hid_mk (fr p hp) upd_same) (dvStrs _))⟩
/-- repr of a list or a tuple without dicts -/
def okR (d : D) : Bool := d.flat && (d.py.showable && (decide (d.py.depth ≤ 60) && decide (d.py.shown.length ≤ 1000000)))
def isSeq : D → Bool
  | .list _ => true
  | .tuple _ => true
  | _ => false
def gRepr : List D → Option D
  | [d] => if isSeq d = true ∧ okR d = true then some (.str d.py.shown) else none
  | _ => none
mutual
theorem nodict : ∀ d : D, d.flat = true → d.py.hasDict = false
  | .none, _ => rfl
  | .bool _, _ => rfl
  | .int _, _ => rfl
  | .str _, _ => rfl
  | .list ds, h => nodictL ds h
  | .tuple ds, h => nodictL ds h
  | .dict _, h => by cases h
  | .dicT _, h => by cases h
  | .obj .., h => by cases h
  | .any, h => by cases h
theorem nodictL : ∀ ds : List D, D.flatL ds = true → PyData.hasDictAll (D.pyL ds) = false
  | [], _ => rfl
  | d :: ds, h => by
    have h' : (d.flat && D.flatL ds) = true := h
    rw [Bool.and_eq_true_iff] at h'
    show (PyData.hasDict d.py || PyData.hasDictAll (D.pyL ds)) = false
    rw [nodict d h'.1, nodictL ds h'.2]
    rfl
end
theorem cd_repr (hg : X.A.guards = some []) (hu : X.A.units + 64 < cLine) : CallF X K (.builtin "repr") gRepr := fun hK => by
  refine ⟨_, Gd.call_repr hg hu, fun M H vs as c Q fr ha e q => ?_⟩
  match as, ha, e with
  | [d], ha, e =>
    obtain ⟨v, rfl, h⟩ := ha.one
    obtain ⟨⟨h0, h1⟩, rfl⟩ := iteSome e
    unfold okR at h1
    simp only [Bool.and_eq_true, decide_eq_true_eq] at h1
    obtain ⟨h2, h3, h4, h5⟩ := h1
    have hd := h.dp h2
    rw [← hK] at hd
    have nd := nodict d h2
    match d, h, h0, hd, nd with
    | .list ds, h, _, hd, nd =>
      obtain ⟨a, vs, rfl, _⟩ := h.list
      exact ⟨_, _, rfl, RdV.dp hd nd, h3, h4, big h5, q _ H (Same.refl _) (.str _)⟩
    | .tuple ds, h, _, hd, nd =>
      obtain ⟨a, vs, rfl, _⟩ := h.tuple
      exact ⟨_, _, rfl, RdV.dp hd nd, h3, h4, big h5, q _ H (Same.refl _) (.str _)⟩
/-! ### isinstance of built-in types -/
def tyN : D → String
  | .none => "NoneType"
  | .bool _ => "bool"
  | .int _ => "int"
  | .str _ => "str"
  | .list _ => "list"
  | .tuple _ => "tuple"
  | .dict _ => "dict"
  | .dicT _ => "dict"
  | .obj .. => "?"
  | .any => "?"
  | .tag .. => "list"
/-- of a built-in type -/
def D.plain : D → Bool
  | .obj .. => false
  | .any => false
  | _ => true
def isB (B : Option String) (tb : List (Nat × Bool)) : D → Option Bool
  | .obj c _ => tb.lookup c
  | .any => none
  | d => some (match B with
    | some B => tyN d == B || (tyN d == "bool" && B == "int")
    | none => false)
/-- what is known of an own class whose instances are asked about -/
structure InsC (K : PySem.W.Frag) (C : Addr) : Prop where
  cl : Cls K C
  ha : PySem.W.findIn K (.ref C) "__class__" = some (some (.builtin "object.__class__"))
  hn : PySem.W.specialIn K (.builtin "object.__class__") "__get__" = some (some (.builtin "getset_descriptor.__get__"))
  ht : PySem.W.takesIn K (.builtin "object.__class__") = some true
  hm : PySem.W.mroIn K C (.type "object") = some true
/-- t: the class that is asked for -/
structure IsW (K : Kx) (t : Value) (B : Option String) (tb : List (Nat × Bool)) : Prop where
  bt : ∀ d, d.plain = true → ∀ b, isB B tb d = some b → PySem.W.kitOne K.K (.type (tyN d)) t = some b
  ob : ∀ c b, tb.lookup c = some b → InsC K.K (K.ct c) ∧ PySem.W.kitOne K.K (.ref (K.ct c)) t = some b
/-- the type of what may be read -/
def tyV (K : Kx) : D → Value
  | .obj c _ => .ref (K.ct c)
  | d => .type (tyN d)
theorem rv_ty {M : List Addr} {H : Hp} {v : V} {d : D} (h : RV K M H v d) (ho : ∀ c fs, d = .obj c fs → InsC K.K (K.ct c)) (hn : d ≠ .any) : TyX K.K H v (tyV K d) := by
  match d, h, ho, hn with
  | .any, _, _, hn => exact absurd rfl hn
  | .none, h, _, _ =>
    cases h.none
    exact .base .non
  | .bool b, h, _, _ =>
    cases h.bool
    exact .base (.bl b)
  | .int i, h, _, _ =>
    cases h.int
    exact .base (.int i)
  | .str x, h, _, _ =>
    cases h.str
    exact .base (.str x)
  | .list ds, h, _, _ =>
    obtain ⟨a, vs, rfl, h1, _⟩ := h.list
    exact .base (.lst h1)
  | .tuple ds, h, _, _ =>
    obtain ⟨a, vs, rfl, q, _⟩ := h.tuple
    rcases q with (q | ⟨o, q⟩) | ⟨o, its, n, q1, q2, q3⟩
    · exact .base (.tup q)
    · exact .fTuple q
    · exact .kTuple q1 q2
  | .dict es, h, _, _ =>
    obtain ⟨a, kvs, rfl, h1, _⟩ := h.dict
    exact .base (.dK h1)
  | .dicT es, h, _, _ =>
    obtain ⟨a, kvs, rfl, h1, _⟩ := h.dicT
    exact .base (.dT h1)
  | .tag k ds, h, _, _ =>
    obtain ⟨a, vs, rfl, h1⟩ := h.tag
    exact .base (.lst h1)
  | .obj c fs, h, ho, _ =>
    obtain ⟨a, dx, fs', rfl, h1, _⟩ := h.obj
    have i := ho c fs rfl
    exact .base (.ins h1 i.cl i.ha i.hn i.ht i.hm)
theorem isw_kit {t : Value} {B : Option String} {tb : List (Nat × Bool)} (w : IsW K t B tb) {d : D} {b : Bool} (e : isB B tb d = some b) : ((∀ c fs, d = .obj c fs → InsC K.K (K.ct c)) ∧ d ≠ .any) ∧ PySem.W.kitOne K.K (tyV K d) t = some b := by
  cases d with
  | any => cases e
  | obj c fs => exact ⟨⟨(fun c' fs' z => by cases z; exact (w.ob c b e).1), fun z => by cases z⟩, (w.ob c b e).2⟩
  | none => exact ⟨⟨(fun _ _ z => by cases z), fun z => by cases z⟩, w.bt _ rfl b e⟩
  | bool _ => exact ⟨⟨(fun _ _ z => by cases z), fun z => by cases z⟩, w.bt _ rfl b e⟩
  | int _ => exact ⟨⟨(fun _ _ z => by cases z), fun z => by cases z⟩, w.bt _ rfl b e⟩
  | str _ => exact ⟨⟨(fun _ _ z => by cases z), fun z => by cases z⟩, w.bt _ rfl b e⟩
  | list _ => exact ⟨⟨(fun _ _ z => by cases z), fun z => by cases z⟩, w.bt _ rfl b e⟩
  | tuple _ => exact ⟨⟨(fun _ _ z => by cases z), fun z => by cases z⟩, w.bt _ rfl b e⟩
  | dict _ => exact ⟨⟨(fun _ _ z => by cases z), fun z => by cases z⟩, w.bt _ rfl b e⟩
  | dicT _ => exact ⟨⟨(fun _ _ z => by cases z), fun z => by cases z⟩, w.bt _ rfl b e⟩
  | tag _ _ => exact ⟨⟨(fun _ _ z => by cases z), fun z => by cases z⟩, w.bt _ rfl b e⟩
/-- built-in types ask nothing of the written part, but of the instances' classes -/
theorem isw_bt {T : String} {tb : List (Nat × Bool)} (h : ∀ d : D, d.plain = true → PySem.W.kitOne K.K (.type (tyN d)) (.type T) = some (tyN d == T || (tyN d == "bool" && T == "int"))) (ho : ∀ c b, tb.lookup c = some b → InsC K.K (K.ct c) ∧ PySem.W.kitOne K.K (.ref (K.ct c)) (.type T) = some b) : IsW K (.type T) (some T) tb :=
  ⟨fun d hd b e => by
    rw [h d hd, ← e]
    cases d <;> first | rfl | exact absurd (show false = true from hd) (by decide), ho⟩
theorem kit_bt (T : String) (h : ∀ a ∈ ["NoneType", "bool", "int", "str", "list", "tuple", "dict"], kitB a T = some (a == T || (a == "bool" && T == "int"))) : ∀ d : D, d.plain = true → PySem.W.kitOne K.K (.type (tyN d)) (.type T) = some (tyN d == T || (tyN d == "bool" && T == "int")) := fun d hd => by
  cases d with
  | obj c fs => cases hd
  | any => cases hd
  | none => exact kit_ty (h "NoneType" (by decide))
  | bool _ => exact kit_ty (h "bool" (by decide))
  | int _ => exact kit_ty (h "int" (by decide))
  | str _ => exact kit_ty (h "str" (by decide))
  | list _ => exact kit_ty (h "list" (by decide))
  | tuple _ => exact kit_ty (h "tuple" (by decide))
  | dict _ => exact kit_ty (h "dict" (by decide))
  | dicT _ => exact kit_ty (h "dict" (by decide))
  | tag _ _ => exact kit_ty (h "list" (by decide))
theorem w_int : IsW K (.type "int") (some "int") [] := isw_bt (kit_bt _ (by decide +kernel)) fun _ _ z => by cases z
theorem w_bool : IsW K (.type "bool") (some "bool") [] := isw_bt (kit_bt _ (by decide +kernel)) fun _ _ z => by cases z
theorem w_str : IsW K (.type "str") (some "str") [] := isw_bt (kit_bt _ (by decide +kernel)) fun _ _ z => by cases z
theorem w_tuple : IsW K (.type "tuple") (some "tuple") [] := isw_bt (kit_bt _ (by decide +kernel)) fun _ _ z => by cases z
theorem w_list : IsW K (.type "list") (some "list") [] := isw_bt (kit_bt _ (by decide +kernel)) fun _ _ z => by cases z
theorem w_dict : IsW K (.type "dict") (some "dict") [] := isw_bt (kit_bt _ (by decide +kernel)) fun _ _ z => by cases z
def fIsi (B : Option String) (tb : List (Nat × Bool)) (f : FE) : FE := fun δ => (f δ).bind fun w => w.rd.bind fun x => (T.of (isB B tb x)).bind fun b => .ret (.d (.bool b))
theorem pf_isi {t : Value} {B : Option String} {tb : List (Nat × Bool)} {c : Expr} {cv : V} (w : IsW F.K t B tb) (hcv : ClsV cv t) (hg : Gl X "isinstance") (hm : X.mg "isinstance" = none) (h1 : PF X F e f) (h2 : PE X c (tC cv)) (hK : X.K = F.K.K := by rfl)
    (he : starEach [e, c] X.env = (false, eval e X.env) :: starEach [c] X.env := by rfl) (he2 : starEach [c] X.env = (false, eval c X.env) :: starEach [] X.env := by rfl) (hpl : (backTo pos (starEach [c] X.env)).any (·.1) = false := by rfl) :
    PF X F (.Call (.Name "isinstance" p) [e, c] [] pos) (fIsi B tb f) :=
  ⟨fun Z tk => pe_to (pe_callB call_isi hg hm (by decide +kernel) (pa_cons (h1.pe Z tk) (pa_cons h2 pa_nil he2) he) (by decide) (by decide) he hpl) fun σ H Q ⟨M, δ, n, ok, q⟩ => goE ok ((T.wp_bind _ _).mp q) fun u n1 v H1 q1 s1 ok1 v1 => by
    obtain ⟨x, hx, q2⟩ := rv_rd v1 ((T.wp_bind _ _).mp q1)
    obtain ⟨b, e, q3⟩ := T.wp_of.mp ((T.wp_bind _ _).mp q2)
    obtain ⟨k1, k2⟩ := isw_kit w e
    rw [hK]
    exact ⟨_, _, _, t, b, rfl, hcv, rv_ty hx k1.1 k1.2, k2, q3 _ H1 s1 ok1 (.bl _)⟩⟩
/-- isinstance(x, (list, tuple)) -/
def isB2 (d : D) : Option Bool := match d with
  | .tag .. => none
  | .obj .. => none
  | .any => none
  | .list _ => some true
  | .tuple _ => some true
  | _ => some false
def fIsi2 (f : FE) : FE := fun δ => (f δ).bind fun w => w.rd.bind fun x => (T.of (isB2 x)).bind fun b => .ret (.d (.bool b))
theorem kit2 {d : D} {b : Bool} (e : isB2 d = some b) : PySem.W.kitAny K.K (tyV K d) [.type "list", .type "tuple"] = some b ∧ (∀ c fs, d ≠ .obj c fs) ∧ d ≠ .any := by
  have g : ∀ a : String, ∀ r : Bool, kitB a "list" = some (a == "list") → kitB a "tuple" = some (a == "tuple") → r = (a == "list" || a == "tuple") → PySem.W.kitAny K.K (.type a) [.type "list", .type "tuple"] = some r := fun a r h1 h2 er => by
    refine kitAny_cons (kit_ty h1) (fun z => ?_) fun z => by rw [er, z]; rfl
    refine kitAny_cons (kit_ty h2) (fun z2 => ?_) fun z2 => by rw [er, z2]; simp
    rw [er, z, z2]
    rfl
  cases d with
  | tag _ _ => cases e
  | obj c fs => cases e
  | any => cases e
  | list _ => cases e; exact ⟨g "list" _ (by decide +kernel) (by decide +kernel) (by decide +kernel), (fun _ _ z => by cases z), fun z => by cases z⟩
  | tuple _ => cases e; exact ⟨g "tuple" _ (by decide +kernel) (by decide +kernel) (by decide +kernel), (fun _ _ z => by cases z), fun z => by cases z⟩
  | none => cases e; exact ⟨g "NoneType" _ (by decide +kernel) (by decide +kernel) (by decide +kernel), (fun _ _ z => by cases z), fun z => by cases z⟩
  | bool _ => cases e; exact ⟨g "bool" _ (by decide +kernel) (by decide +kernel) (by decide +kernel), (fun _ _ z => by cases z), fun z => by cases z⟩
  | int _ => cases e; exact ⟨g "int" _ (by decide +kernel) (by decide +kernel) (by decide +kernel), (fun _ _ z => by cases z), fun z => by cases z⟩
  | str _ => cases e; exact ⟨g "str" _ (by decide +kernel) (by decide +kernel) (by decide +kernel), (fun _ _ z => by cases z), fun z => by cases z⟩
  | dict _ => cases e; exact ⟨g "dict" _ (by decide +kernel) (by decide +kernel) (by decide +kernel), (fun _ _ z => by cases z), fun z => by cases z⟩
  | dicT _ => cases e; exact ⟨g "dict" _ (by decide +kernel) (by decide +kernel) (by decide +kernel), (fun _ _ z => by cases z), fun z => by cases z⟩
theorem pf_isi2 {y z : Str} {py pz pt : Pos} {kk : Nat} (hg : Gl X "isinstance") (hm : X.mg "isinstance" = none) (h1 : PF X F e f) (h2 : PE X (.Name y py) (tC (.ty "list"))) (h3 : PE X (.Name z pz) (tC (.ty "tuple"))) (hK : X.K = F.K.K := by rfl)
    (he : starEach [e, .Tuple [.Name y py, .Name z pz] kk pt] X.env = (false, eval e X.env) :: starEach [.Tuple [.Name y py, .Name z pz] kk pt] X.env := by rfl) (he2 : starEach [.Tuple [.Name y py, .Name z pz] kk pt] X.env = (false, eval (.Tuple [.Name y py, .Name z pz] kk pt) X.env) :: starEach [] X.env := by rfl)
    (he3 : starEach [.Name y py, .Name z pz] X.env = (false, eval (.Name y py) X.env) :: starEach [.Name z pz] X.env := by rfl) (he4 : starEach [.Name z pz] X.env = (false, eval (.Name z pz) X.env) :: starEach [] X.env := by rfl) (hpl : (backTo pos (starEach [.Tuple [.Name y py, .Name z pz] kk pt] X.env)).any (·.1) = false := by rfl) :
    PF X F (.Call (.Name "isinstance" p) [e, .Tuple [.Name y py, .Name z pz] kk pt] [] pos) (fIsi2 f) :=
  ⟨fun Z tk => pe_to (pe_callB call_isiT hg hm (by decide +kernel) (pa_cons (h1.pe Z tk) (pa_cons (pe_tupN (pa_cons h2 (pa_cons h3 pa_nil he4) he3)) pa_nil he2) he) (by decide) (by decide) he hpl) fun σ H Q ⟨M, δ, n, ok, q⟩ => goE ok ((T.wp_bind _ _).mp q) fun u n1 v H1 q1 s1 ok1 v1 => by
    refine ⟨by show 2 ≤ 1000000; decide, fun tp H2 np s2 e2 => ?_⟩
    obtain ⟨x, hx, q2⟩ := rv_rd (v1.kp (Kp.of s2)) ((T.wp_bind _ _).mp q1)
    obtain ⟨b, e, q3⟩ := T.wp_of.mp ((T.wp_bind _ _).mp q2)
    obtain ⟨k1, k2⟩ := kit2 (K := F.K) e
    rw [hK]
    exact ⟨_, tp, _, _, _, b, rfl, e2, .cons (.ty _) (.cons (.ty _) .nil), rv_ty hx (fun c fs z => absurd z (k2.1 c fs)) k2.2, k1, q3 _ H2 (s1.trans (Kp.of s2)) (ok1.same s2) (.bl _)⟩⟩
/-! ### indices and slices -/
def dIx : D → D → Option D
  | .list xs, .int i => atI xs i
  | .tuple xs, .int i => atI xs i
  | .str x, .int i => if x.length ≤ 1000000 then (atI x.cps.toList i).map fun c => .str ⟨#[c]⟩ else none
  | _, _ => none
theorem atI_ok {G : Hp} {vs : List V} {ds : List D} {i : Int} {d : D} (h : DVs K G vs ds) (e : atI ds i = some d) : ∃ v, atI vs i = some v ∧ DV K G v d := by
  unfold atI at e ⊢
  rw [h.length]
  cases e1 : ixN ds.length i with
  | none =>
    rw [e1] at e
    cases e
  | some j =>
    rw [e1] at e
    exact h.at_ e
variable {a b : Expr} {f1 f2 : FE}
theorem ix_to (hK : X.K = F.K.K) {Z : ZF} : ∀ σ H Q, tE F Z (fOp dIx f1 f2) σ H Q → tOp (rIx X.K) (tE F Z f1) (tE F Z f2) σ H Q := fop_to fun M H v u a b c Q fr ha hb e q => by
  match a, b, ha, hb, e with
  | .list ds, .int i, ha, hb, e =>
    cases hb.int
    obtain ⟨a1, xs, rfl, h1, h2⟩ := ha.list
    obtain ⟨v', e1, e2⟩ := atI_ok h2 (show atI ds i = some c from e)
    exact .inl ⟨a1, xs, i, v', rfl, rfl, SqL.of h1, e1, q _ H (Same.refl _) e2⟩
  | .tuple ds, .int i, ha, hb, e =>
    cases hb.int
    obtain ⟨a1, xs, rfl, h1, h2, _⟩ := ha.tuple
    obtain ⟨v', e1, e2⟩ := atI_ok h2 (show atI ds i = some c from e)
    exact .inr (.inl ⟨a1, xs, i, v', rfl, rfl, by rw [hK]; exact h1, e1, q _ H (Same.refl _) e2⟩)
  | .str x, .int i, ha, hb, e =>
    cases hb.int
    cases ha.str
    have e' : (if x.length ≤ 1000000 then (atI x.cps.toList i).map fun c => D.str ⟨#[c]⟩ else none) = some c := e
    by_cases z : x.length ≤ 1000000
    · rw [if_pos z] at e'
      obtain ⟨c', h3, rfl⟩ := Option.map_eq_some_iff.mp e'
      exact .inr (.inr ⟨x, i, c', rfl, rfl, big z, h3, q _ H (Same.refl _) (.str _)⟩)
    · rw [if_neg z] at e'
      cases e'
theorem pf_ix (ha : PF X F a f1) (hb : PF X F b f2) (hs : PlainIx b) (hK : X.K = F.K.K := by rfl) : PF X F (.Subscript a b pos) (fOp dIx f1 f2) := ⟨fun Z tk => pe_to (pe_ix ix_seq (ha.pe Z tk) (hb.pe Z tk) hs) (ix_to hK)⟩
/-- a slice's part -/
abbrev FO := Sl → R (Option Int)
def tO (F : Fc) (Z : ZF) (f : FO) : TO := fun σ H Q => ∃ M δ n, Ok F M σ H δ n ∧ (f δ).wp n (fun o n' => ∀ H', Kp F M H H' → Ok F M σ H' δ n' → Q o H') (fun x n' => Z x n' δ)
structure PFO (X : Cx) (F : Fc) (e : Option Expr) (f : FO) : Prop where
  po : ∀ Z, Lk X F Z → PO X e (tO F Z f)
def oNo : FO := fun _ => .ret none
def intOf : D → Option Int
  | .int i => some i
  | _ => none
def oPart (f : FE) : FO := fun δ => (f δ).bind fun w => w.rd.bind fun x => (T.of (intOf x)).bind fun i => .ret (some i)
theorem pfo_none : PFO X F none oNo := ⟨fun Z tk => ⟨fun pins s σ H Q I ⟨M, δ, n, ok, q⟩ => po_none.run pins s σ H Q I (q H Kp.refl ok)⟩⟩
theorem pfo_some (h : PF X F e f) : PFO X F (some e) (oPart f) := ⟨fun Z tk => ⟨fun pins s σ H Q I ⟨M, δ, n, ok, q⟩ => (po_some (h.pe Z tk)).run pins s σ H Q I (goE ok ((T.wp_bind _ _).mp q) fun w n1 v H1 q1 s1 ok1 v1 => by
    obtain ⟨x, hx, q2⟩ := rv_rd v1 ((T.wp_bind _ _).mp q1)
    obtain ⟨i, e, q3⟩ := T.wp_of.mp ((T.wp_bind _ _).mp q2)
    match x, hx, e with
    | .int j, hx, e =>
      cases e
      exact ⟨i, hx.int, q3 H1 s1 ok1⟩)⟩⟩
def cutD (xs : List D) (lo hi : Option Int) : List D := (xs.drop (HT.sIx xs.length 0 lo)).take (HT.sIx xs.length xs.length hi - HT.sIx xs.length 0 lo)
def dCut (x : D) (lo hi : Option Int) : Option D := match x with
  | .list xs => some (.list (cutD xs lo hi))
  | .tuple xs => some (.tuple (cutD xs lo hi))
  | .str x => if x.length ≤ 1000000 then some (.str (cutS x lo hi)) else none
  | _ => none
theorem DVs.cut {G : Hp} {vs : List V} {ds : List D} {lo hi : Option Int} (h : DVs K G vs ds) : DVs K G (cutV vs lo hi) (cutD ds lo hi) := by
  unfold cutV cutD
  rw [h.length]
  exact (h.drop _).take _
theorem cut_to {M : List Addr} {H : Hp} {v : V} {x d : D} {l u : Option Int} {Q : VK} (fr : ∀ p, H p = none → p ∉ M) (v3 : RV K M H v x) (e2 : dCut x l u = some d) (fin : ∀ w H', Same H H' → DV K (hid M H') w d → Q w H') :
    (rSlL K.K v l u H Q ∨ rSlA K.K v l u H Q) ∨ rSlS v l u H Q := by
  match x, v3, e2 with
  | .str y, v3, e2 =>
    cases v3.str
    obtain ⟨h1, rfl⟩ := iteSome e2
    exact .inr ⟨y, rfl, big h1, fin _ H (Same.refl _) (.str _)⟩
  | .list ds, v3, e2 =>
    cases e2
    obtain ⟨a1, vs, rfl, h1, h2⟩ := v3.list
    exact .inl (.inl ⟨a1, vs, rfl, SqL.of h1, fun p hp => fin _ _ (same1 hp) (.lst (hid_mk (fr p hp) upd_same) (h2.cut.same (hid_same (same1 hp))))⟩)
  | .tuple ds, v3, e2 =>
    cases e2
    obtain ⟨a1, vs, rfl, h1, h2, t⟩ := v3.tuple
    refine .inl (.inr ⟨a1, vs, rfl, h1, fun hw => ?_, fun hw p hp => fin _ _ (same1 hp) (.tup (SqT.of (hid_mk (fr p hp) upd_same)) (h2.cut.same (hid_same (same1 hp))))⟩)
    have ec : cutD ds l u = ds := by
      unfold cutD
      rw [← h2.length, hw.1, hw.2, List.drop_zero, Nat.sub_zero, h2.length, List.take_length]
    rw [ec] at fin
    exact fin _ H (Same.refl _) t
def fSlice (f : FE) (lo hi : FO) : FE := fun δ => (f δ).bind fun w => (lo δ).bind fun l => (hi δ).bind fun u => w.rd.bind fun x => (T.of (dCut x l u)).bind fun d => .ret (.d d)
theorem pf_slice {lo hi : Option Expr} {p2 : Pos} {fl fh : FO} (ha : PF X F a f) (hl : PFO X F lo fl) (hh : PFO X F hi fh) (hK : X.K = F.K.K := by rfl) : PF X F (.Subscript a (.Slice lo hi none p2) pos) (fSlice f fl fh) :=
  ⟨fun Z tk => pe_to (pe_slice ((sl_list.or sl_tupA).or sl_str) (ha.pe Z tk) (hl.po Z tk) (hh.po Z tk)) fun σ H Q ⟨M, δ, n, ok, q⟩ => goE ok ((T.wp_bind _ _).mp q) fun w n1 v H1 q1 s1 ok1 v1 => ⟨M, δ, n1, ok1, T.wp_mono (fun l n2 q2 H2 s2 ok2 => ⟨M, δ, n2, ok2, T.wp_mono (fun u n3 q3 H3 s3 ok3 => by
    obtain ⟨x, ex, q4⟩ := rd_cases ((T.wp_bind _ _).mp q3)
    obtain ⟨d, ed, q5⟩ := T.wp_of.mp ((T.wp_bind _ _).mp q4)
    rw [hK]
    exact cut_to (fun p hp => ok3.fresh hp) (RV.kp rfl (s2.trans s3) v1 ex) ed fun w H' s dv => q5 w H' (s1.trans (s2.trans (s3.trans (Kp.of s)))) (ok3.same s) dv) (fun _ _ z => z) _ _ ((T.wp_bind _ _).mp q2)⟩) (fun _ _ z => z) _ _ ((T.wp_bind _ _).mp q1)⟩⟩
/-- -e -/
def fNeg (f : FE) : FE := fun δ => (f δ).bind fun w => w.rd.bind fun x => (T.of (intOf x)).bind fun i => .ret (.d (.int (-i)))
theorem pf_neg (ha : PF X F a f) : PF X F (.UnaryOp .USub a pos) (fNeg f) := ⟨fun Z tk => pe_to (pe_un un_neg (ha.pe Z tk)) fun σ H Q ⟨M, δ, n, ok, q⟩ => goE ok ((T.wp_bind _ _).mp q) fun w n1 v H1 q1 s1 ok1 v1 => by
    obtain ⟨x, hx, q2⟩ := rv_rd v1 ((T.wp_bind _ _).mp q1)
    obtain ⟨i, e, q3⟩ := T.wp_of.mp ((T.wp_bind _ _).mp q2)
    match x, hx, e with
    | .int j, hx, e =>
      cases e
      exact ⟨i, hx.int, q3 _ H1 s1 ok1 (.int _)⟩⟩
end
end FL

/-! Promises of defs, calls. -/
namespace FL
open PySem PySem.Spec PyProof.Rows L2 Gd Fx Stp
abbrev FFn := List W → R D
def W.arg : W → Bool
  | .d _ => true
  | .wl => true
  | _ => false
/-- what a lambda's taker gets -/
def W.arg1 : W → Bool
  | .fn => true
  | w => w.arg
structure Ent (F : Fc) (n : Nat) (vs : List V) (ws : List W) : Prop where
  arg : VOks F F.M0 F.H0 vs ws
  ok : ws.all W.arg1 = true
  al : ∀ p ∈ F.M0, ∃ o, F.H0 p = some o
  wel : ∀ p, F.wl = some p → p.1 ∈ F.M0 ∧ WlAt (hid F.M0 F.H0) F.H0 n p
  noa : F.anc = []
  nos : F.slf = none
  nox : F.xc = none
  tab : LamX.Tabs F.tb F.H0 ∧ ∀ p ∈ F.tb, p.1 ∈ F.M0
def spF (K : Kx) (g : FFn) : Sp := fun vs H Q E => ∃ (F : Fc) (n : Nat) (ws : List W), F.K = K ∧ F.H0 = H ∧ Ent F n vs ws ∧ (g ws).wp n (fun d n' => ∀ v H', Ret F H' n' v d → Q v H') (fun x n' => ∀ cls d M σ H' δ, Ok F M σ H' δ n' → XnOk K (hid M H') cls d x → E cls d H')
def startL (L : Nat) (ws : List W) : Sl := ws.map (fun w => some (S.v w)) ++ List.replicate (L - ws.length) none
/-- a body's end -/
def fin : Out → R D
  | .rt d => .ret d
  | .nx _ => .ret .none
  | _ => .bad
/-- a def: L slots, m parameters -/
def mk (L m : Nat) (f : FS) : FFn := fun ws => if ws.length = m then ((f (startL L ws)).mapEx Prod.fst).bind fin else .bad
theorem VOks.at_ {F : Fc} {M : List Addr} {H : Hp} : ∀ {vs : List V} {ws : List W} {i : Nat} {w : W}, VOks F M H vs ws → ws[i]? = some w → ∃ v, vs[i]? = some v ∧ VOk F M H v w
  | _, _, i, _, .nil, e => by simp at e
  | _, _, 0, _, .cons h t, e => by cases e; exact ⟨_, rfl, h⟩
  | _, _, i + 1, _, .cons h t, e => t.at_ (i := i) e
theorem startL_at {L : Nat} {ws : List W} {i : Nat} {s : S} (h : (startL L ws)[i]? = some (some s)) : ∃ w, ws[i]? = some w ∧ s = S.v w := by
  unfold startL at h
  by_cases hi : i < ws.length
  · rw [List.getElem?_append_left (by rw [List.length_map]; exact hi), List.getElem?_map, List.getElem?_eq_getElem hi] at h
    exact ⟨_, List.getElem?_eq_getElem hi, (Option.some.inj (Option.some.inj h)).symm⟩
  · rw [List.getElem?_append_right (by rw [List.length_map]; omega), List.getElem?_replicate] at h
    split at h <;> cases h
theorem Ent.start {F : Fc} {n : Nat} {vs : List V} {ws : List W} {N : List Str} (h : Ent F n vs ws) : Ok F F.M0 (start N vs) F.H0 (startL N.length ws) n where
  len := by
    unfold L2.start startL
    rw [List.length_append, List.length_append, List.length_map, List.length_map, List.length_replicate, List.length_replicate, h.arg.length]
  val := fun i w e => by
    obtain ⟨w', e1, e2⟩ := startL_at e
    cases e2
    obtain ⟨v, e3, e4⟩ := h.arg.at_ e1
    refine ⟨v, ?_, e4⟩
    unfold L2.start
    have hi : i < vs.length := (List.getElem?_eq_some_iff.mp e3).1
    rw [List.getElem?_append_left (by rw [List.length_map]; exact hi), List.getElem?_map, e3]
    rfl
  own := fun i x e => by
    obtain ⟨w', e1, e2⟩ := startL_at e
    cases e2
  dis := fun i j x y p e1 e2 => by
    obtain ⟨w', e1, e3⟩ := startL_at e1
    cases e3
  nol := fun i x e => by
    obtain ⟨w', e1, e3⟩ := startL_at e
    cases e3
    have := List.all_eq_true.mp h.ok _ (List.mem_of_getElem? e1)
    cases this
  sub := fun p hp => hp
  new := fun p hp => .inl hp
  al := h.al
  ext := Same.refl _
  frm := fun p _ _ o _ e => e
  tab := h.tab
  wel := h.wel
  anc := fun A hA => by rw [h.noa] at hA; cases hA
  sw := fun q e => by rw [h.nos] at e; cases e
/-- a callee's frame -/
def sub (F : Fc) (M : List Addr) (H : Hp) : Fc := { K := F.K, M0 := M, H0 := H, wl := F.wl, tb := F.tb }
theorem VOks.sub {F : Fc} {M : List Addr} {H H0 : Hp} : ∀ {vs : List V} {ws : List W}, VOks F M H vs ws → ws.all W.arg = true → VOks (FL.sub F M H0) M H vs ws
  | _, _, .nil, _ => .nil
  | _, w :: ws, .cons h t, e => by
    have e' : (w.arg && ws.all W.arg) = true := e
    rw [Bool.and_eq_true_iff] at e'
    refine .cons ?_ (t.sub e'.2)
    cases w with
    | ln x => cases e'.1
    | xc x => cases e'.1
    | fn => cases e'.1
    | al k => cases e'.1
    | _ => exact h
theorem arg1 {ws : List W} (h : ws.all W.arg = true) : ws.all W.arg1 = true := List.all_eq_true.mpr fun w hw => by
  have := List.all_eq_true.mp h w hw
  cases w with
  | fn => rfl
  | _ => exact this
section
variable {F : Fc} {M : List Addr} {σ : L2.St} {H H' : Hp} {δ : Sl} {n n' : Nat}
theorem Ok.ent {vs : List V} {ws : List W} (h : Ok F M σ H δ n) (hv : VOks F M H vs ws) (ha : ws.all W.arg = true) : Ent (FL.sub F M H) n vs ws :=
  ⟨hv.sub ha, arg1 ha, h.al, fun p e => ⟨h.sub _ (h.wel p e).1, (h.wel p e).2⟩, rfl, rfl, rfl, h.tab.1, fun p hp => h.sub _ (h.tab.2 p hp)⟩
theorem RetB.kp (r : RetB (FL.sub F M H) H' n') : Kp F M H H' := ⟨r.ext, fun p hp hw o ho e => r.frm p hp (fun z => by
  rcases z with ⟨q, e1, e2⟩ | ⟨q, e1, _⟩
  · exact hw q e1 e2
  · cases e1) o ho e⟩
theorem Ok.retS (h : Ok F M σ H δ n) (r : RetB (FL.sub F M H) H' n') : Kp F M H H' ∧ Ok F M σ H' δ n' := ⟨r.kp, h.back r.kp r.tab r.al r.wel⟩
end
/-! ### a def -/
section
variable {P : Program} {w : World} {K : Kx} {mg : Str → Option Value} {base : Heap} {k : Nat} {f : Addr} {fd : FuncData} {ps : List Str} {x qual : Str} {st : Stmt} {N : List Str} {fb : FS}
/-- a def by its body -/
theorem okF (FU : Fun K.K x qual st f fd) (S : FnScope N ps (defScope st))
    (hbody : ∀ (cdv : Value) (A : Around) (outer : List Env) (s : Shared) (H : Hp) (E : XK) (F : Fc), F.K = K → RoomG k (A.deeper (envOfC qual (defScope st) s.heap.objs.size f cdv)) →
      PFB (cxOf (L2.CX P w) P w K.K mg base N qual (defScope st) f cdv A outer s H E) F (defBody st) fb) :
    FnG P w K.K mg base (L2.CX P w) (k + 1) f fd ps (spF K (mk N.length ps.length fb)) := by
  refine okGX FU S (fun vs H Q E ⟨F, n, ws, _, _, h, q⟩ => ?_) (fun cdv A outer s H vs Q E hr ⟨F, n, ws, e1, e2, h, q⟩ => ?_)
  · rw [h.arg.length]
    exact (wp_if q).1
  · obtain ⟨hl, q⟩ := wp_if q
    have tk : Lk (cxOf (L2.CX P w) P w K.K mg base N qual (defScope st) f cdv A outer s H E) F (fun x n' _ => ∀ cls d M σ H' δ, Ok F M σ H' δ n' → XnOk K (hid M H') cls d x → E cls d H') :=
      (takes_of (X := cxOf (L2.CX P w) P w K.K mg base N qual (defScope st) f cdv A outer s H E) rfl rfl rfl rfl).imp fun cls d σ H' ⟨M, δ, n', x, ok, hx, z⟩ => z cls d M σ H' δ ok (by rw [e1] at hx; exact hx)
    refine ⟨_, (hbody cdv A outer s H E F e1 hr).ps _ tk, ?_⟩
    rw [← e2]
    refine ⟨_, _, n, h.start, T.wp_mono (fun o n' q2 => ?_) (fun _ _ z => z) _ _ ((T.wp_mapEx _ _).mp ((T.wp_bind _ _).mp q))⟩
    match o, q2 with
    | .nx δ, q2 => exact fun M σ H ok => q2 .non H (ok.ret .non)
    | .rt d, q2 => exact q2
end
/-! ### its call -/
def fCall (g : FFn) (fa : FA) : FE := fun δ => (fa δ).bind fun ws => if ws.all W.arg = true then (g ws).bind fun d => .ret (.d d) else .bad
/-- a def that may be called by its name -/
structure CalF (P : Program) (w : World) (K : Kx) (mg : Str → Option Value) (base : Heap) (k : Nat) (x : Str) (g : FFn) : Prop where
  ex : ∃ (f : Addr) (fd : FuncData) (ps : List Str), FnG P w K.K mg base (L2.CX P w) k f fd ps (spF K g) ∧ mg x = some (.ref f) ∧ PySem.W.keepIn K.K (.ref f) = true ∧ L2.Binds K.K fd ps []
/-- .. by keywords: ks the names as they are written, prm their places -/
def permV (prm : List Nat) (zs : List V) : List V := prm.map fun i => zs.getD i .non
def permU (prm : List Nat) (zs : List Value) : List Value := prm.map fun i => zs.getD i .none
def permW (prm : List Nat) (zs : List W) : List W := prm.map fun i => zs.getD i (.d .none)
structure CalK (P : Program) (w : World) (K : Kx) (mg : Str → Option Value) (base : Heap) (k : Nat) (x : Str) (ks : List Str) (prm : List Nat) (g : FFn) : Prop where
  ex : ∃ (f : Addr) (fd : FuncData) (ps : List Str), FnG P w K.K mg base (L2.CX P w) k f fd ps (spF K g) ∧ mg x = some (.ref f) ∧ PySem.W.keepIn K.K (.ref f) = true ∧ (∀ (s : Shared) (ws : List Value), K.K.In s.heap → ws.length = ks.length → BindsTo s fd ⟨[], ks.zip ws⟩ (ps.zip (permU prm ws))) ∧ prm.all (fun i => decide (i < ks.length)) = true
theorem CalF.mono {P : Program} {w : World} {K : Kx} {mg : Str → Option Value} {base : Heap} {j k : Nat} {x : Str} {g : FFn} (C : CalF P w K mg base j x g) (h : j ≤ k) : CalF P w K mg base k x g :=
  let ⟨f, fd, ps, a, b⟩ := C.ex; ⟨f, fd, ps, a.mono h, b⟩
section
variable {X : Cx} {F : Fc} {j k : Nat} {f : Addr} {fd : FuncData} {ps : List Str} {ds : List Value} {x : Str} {p pos : Pos} {e : Expr} {es : List Expr} {fa : FA} {g : FFn}
theorem run_fnGS {CX : CXT} {sp : Sp} {E : XK} {pins : List (Addr × Obj)} {σ : L2.St} {H : Hp} {s : Shared} {Q : VK} {us : List Value} {vs : List V} (FG : FnG X.prog X.w X.K X.mg X.base CX k f fd ps sp) (hr : RoomG k X.A) (hb : L2.Binds X.K fd ps []) (hx : PassesAt CX X σ E)
    (I : Inv X pins σ H s) (r : Vals vs us) (h : sp vs H Q E) : wpAny (model X.prog X.w) X.A (call (.ref f) us) (EP X pins σ Q) X.xe s := by
  have hl : (us ++ []).length = ps.length := by
    rw [List.append_nil]
    exact r.length.symm.trans (FG.len _ _ _ _ h)
  have hbi := hb s us I.kIn hl
  rw [List.append_nil] at hbi
  refine wpAny_call (codeAny_mono (FG.run X.A X.stack s H ⟨us, []⟩ us vs Q E hr I.env0 hbi r h) fun r s' hq => ?_)
  cases r with
  | error e => exact hx pins H s e s' I hq
  | ok fl => cases fl <;> first | exact I.after hq | exact False.elim hq
theorem passZ {Z : ZF} (tk : Lk X F Z) (σ : L2.St) : PassesAt (L2.CX X.prog X.w) X σ (fun cls d H => WZ F Z cls d σ H) := fun pins H s e s' I c => tk e s' (XE.of_call I (fun cls d H' h => h) c)
/-- a call's promise from its reading -/
theorem call_sp {Z : ZF} {M : List Addr} {σ : L2.St} {H H1 : Hp} {δ : Sl} {n1 : Nat} {ws : List W} {vs : List V} {Q : VK} {K : PySem.W.Frag} (hK : K = F.K.K) (s1 : Kp F M H H1) (ok1 : Ok F M σ H1 δ n1) (v1 : VOks F M H1 vs ws) (ha : ws.all W.arg = true)
    (q : (g ws).wp n1 (fun d n2 => ∀ v H', Kp F M H H' → Ok F M σ H' δ n2 → DV F.K (hid M H') v d → Q v H') (fun x n' => Z x n' δ)) : spF F.K g vs H1 Q (fun cls d H => WZ F Z cls d σ H) := by
  refine ⟨FL.sub F M H1, n1, ws, rfl, rfl, ok1.ent v1 ha, T.wp_mono (fun d n2 q2 v H2 r => ?_) (fun x n2 z cls d M' σ' H2 δ' r hx => ?_) _ _ q⟩
  · obtain ⟨h1, h2⟩ := ok1.retS r.toRetB
    exact q2 v H2 (s1.trans h1) h2 r.val
  · have k : Same (hid M' H2) (hid M H2) := hid_sub r.sub
    obtain ⟨h1, h2⟩ := ok1.retS r.retB
    exact ⟨M, δ, n2, x, h2, hx.same k, z⟩
theorem wp_call {ws : List W} {n : Nat} {Q : W → Nat → Prop} {Z : Xn → Nat → Prop} (q : (if ws.all W.arg = true then (g ws).bind fun d => T.ret (W.d d) else .bad).wp n Q Z) : ws.all W.arg = true ∧ (g ws).wp n (fun d n' => Q (.d d) n') Z := by
  obtain ⟨h, q⟩ := wp_if q
  exact ⟨h, (T.wp_bind _ _).mp q⟩
theorem pf_cal (C : CalF X.prog X.w F.K X.mg X.base j x g) (hr : RoomG k X.A) (hj : j ≤ k) (hgl : Gl X x) (ha : PFA X F (e :: es) fa) (hK : X.K = F.K.K := by rfl) (hdb : (x == ("__debug__" : Str)) = false := by decide)
    (he : starEach (e :: es) X.env = (false, eval e X.env) :: starEach es X.env := by rfl) (hpl : (backTo pos (starEach es X.env)).any (·.1) = false := by rfl) : PF X F (.Call (.Name x p) (e :: es) [] pos) (fCall g fa) := by
  obtain ⟨f, fd, ps, FG, hm, hk, hb⟩ := C.ex
  rw [← hK] at FG hk hb
  refine ⟨fun Z tk => ⟨fun pins s σ H Q I ⟨M, δ, n, ok, q⟩ => wpAny_Call_Name_kw (ld_glob I hgl hm (PySem.W.callWith_K (h₀ := X.base) I.ok.mod.kin hk ?_ he hpl) hdb)⟩⟩
  refine thn ((ha.pa Z tk).run pos pins s σ H (fun vs H1 => spF F.K g vs H1 Q (fun cls d H => WZ F Z cls d σ H)) I (goA ok ((T.wp_bind _ _).mp q) fun ws n1 vs H1 q1 s1 ok1 v1 => ?_)) fun us s1 ⟨vs, H1, I1, r, q⟩ => ⟨I1.kIn, run_fnGS FG (hr.mono hj) hb (passZ tk σ) I1 r q⟩
  obtain ⟨ha, q2⟩ := wp_call q1
  exact call_sp hK s1 ok1 v1 ha q2
/-! ### keywords -/
structure PFK (X : Cx) (F : Fc) (kws : List Keyword) (f : FA) : Prop where
  pk : ∀ Z, Lk X F Z → PK X kws (tA F Z f)
variable {kws : List Keyword} {fe : FE} {fk : FA} {nm : Option Str} {kpos : Pos}
theorem pk_to {t t' : TA} (h : PK X kws t) (k : ∀ σ H Q, t' σ H Q → t σ H Q) : PK X kws t' := ⟨fun pos pins s σ H Q I q => h.run pos pins s σ H Q I (k σ H Q q)⟩
theorem pfk_nil : PFK X F [] fNil := ⟨fun Z _ => pk_to pk_nil fun σ H Q ⟨M, δ, n, ok, q⟩ => q [] H Kp.refl ok .nil⟩
theorem pfk_cons (h1 : PF X F e fe) (h2 : PFK X F kws fk) : PFK X F (⟨nm, e, kpos⟩ :: kws) (fCons fe fk) :=
  ⟨fun Z tk => pk_to (pk_cons (h1.pe Z tk) (h2.pk Z tk)) fun σ H Q ⟨M, δ, n, ok, q⟩ => goE ok ((T.wp_bind _ _).mp q) fun w n1 v H1 q1 s1 ok1 v1 => goA ok1 ((T.wp_bind _ _).mp q1) fun ws n2 vs H2 q2 s2 ok2 v2 =>
    q2 (v :: vs) H2 (s1.trans s2) ok2 (.cons (v1.kp s2) v2)⟩
theorem getD_vals {vs : List V} {us : List Value} (r : Vals vs us) : ∀ i : Nat, RelV (vs.getD i .non) (us.getD i .none) := by
  induction r with
  | nil => exact fun i => rfl
  | cons h t ih =>
    intro i
    cases i with
    | zero => exact h
    | succ i => exact ih i
theorem perm_vals {prm : List Nat} {vs : List V} {us : List Value} (r : Vals vs us) : Vals (permV prm vs) (permU prm us) := by
  induction prm with
  | nil => exact .nil
  | cons i prm ih => exact .cons (getD_vals r i) ih
theorem getD_voks {M : List Addr} {H : Hp} {vs : List V} {ws : List W} (r : VOks F M H vs ws) : ∀ i : Nat, VOk F M H (vs.getD i .non) (ws.getD i (.d .none)) := by
  induction r with
  | nil => exact fun i => DV.non
  | cons h t ih =>
    intro i
    cases i with
    | zero => exact h
    | succ i => exact ih i
theorem perm_voks {prm : List Nat} {M : List Addr} {H : Hp} {vs : List V} {ws : List W} (r : VOks F M H vs ws) : VOks F M H (permV prm vs) (permW prm ws) := by
  induction prm with
  | nil => exact .nil
  | cons i prm ih => exact .cons (getD_voks r i) ih
def fCallK (L : Nat) (prm : List Nat) (g : FFn) (fk : FA) : FE := fun δ => (fk δ).bind fun ws => if ws.length = L then (fCall g (fun _ => .ret (permW prm ws))) δ else .bad
theorem pf_calk {ks : List Str} {prm : List Nat} {L : Nat} (C : CalK X.prog X.w F.K X.mg X.base j x ks prm g) (hr : RoomG k X.A) (hj : j ≤ k) (hgl : Gl X x) (ha : PFK X F kws fk) (hL : ks.length = L := by rfl) (hK : X.K = F.K.K := by rfl) (hall : (backToKw pos (keywordEach kws X.env)).all (·.1.isSome) = true := by rfl) (hks : (backToKw pos (keywordEach kws X.env)).filterMap (·.1) = ks := by rfl)
    (hdb : (x == ("__debug__" : Str)) = false := by decide) (hpl : ((backTo pos (starEach [] X.env)).any (·.1) || (backToKw pos (keywordEach kws X.env)).any (·.1.isNone)) = false := by rfl) :
    PF X F (.Call (.Name x p) [] kws pos) (fCallK L prm g fk) := by
  obtain ⟨f, fd, ps, FG, hm, hk, hb, hprm⟩ := C.ex
  rw [← hK] at FG hk hb
  refine ⟨fun Z tk => ⟨fun pins s σ H Q I ⟨M, δ, n, ok, q⟩ => wpAny_Call_Name_kw (ld_glob I hgl hm ?_ hdb)⟩⟩
  refine PySem.W.callWith_KW0 (h₀ := X.base) I.ok.mod.kin hk hall ?_ hpl
  refine thn ((ha.pk Z tk).run pos pins s σ H (fun zs H1 => zs.length = ks.length ∧ spF F.K g (permV prm zs) H1 Q (fun cls d H => WZ F Z cls d σ H)) I (goA ok ((T.wp_bind _ _).mp q) fun ws n1 vs H1 q1 s1 ok1 v1 => ?_)) fun ws s2 ⟨zs, H2, I2, rz, hz, hsp⟩ => ⟨I2.kIn, ?_⟩
  · obtain ⟨hl, q2⟩ := wp_if q1
    rw [← hL] at hl
    obtain ⟨ha, q3⟩ := wp_call q2
    exact ⟨by rw [v1.length]; exact hl, call_sp hK s1 ok1 (perm_voks v1) ha q3⟩
  · rw [hks]
    refine wpAny_call (codeAny_mono (FG.run X.A X.stack s2 H2 ⟨[], ks.zip ws⟩ (permU prm ws) (permV prm zs) Q _ (hr.mono hj) I2.env0 (hb s2 ws I2.kIn (rz.length.symm.trans hz)) (perm_vals rz) hsp) fun r s' hq => ?_)
    cases r with
    | error e => exact passZ tk σ pins H2 s2 e s' I2 hq
    | ok fl => cases fl <;> first | exact I2.after hq | exact False.elim hq
end
end FL

/-! Lists and dicts of one's own: made, put into slots, written, read no more as one's own. -/
namespace FL
open PySem PySem.Spec PyProof.Rows L2 Gd Fx Stp
inductive WX where
  | d (x : D)
  | fr (x : D)
def WX.s : WX → S
  | .d x => .v (.d x)
  | .fr x => .own x
abbrev FX := Sl → R WX
/-- what was made: data, or an object that nobody else knows -/
def VX (F : Fc) (M : List Addr) (H : Hp) (M' : List Addr) (H' : Hp) (v : V) : WX → Prop
  | .d x => M' = M ∧ DV F.K (hid M H') v x
  | .fr x => ∃ p o, v = .ref p ∧ M' = p :: M ∧ H p = none ∧ H' p = some o ∧ HV F.K (hid M' H') o x ∧ x.kind = 0
def tX (F : Fc) (Z : ZF) (f : FX) : TE := fun σ H Q => ∃ M δ n, Ok F M σ H δ n ∧ (f δ).wp n (fun w n' => ∀ v M' H', VX F M H M' H' v w → Kp F M H H' → Ok F M' σ H' δ n' → Q v H') (fun x n' => Z x n' δ)
structure PFX (X : Cx) (F : Fc) (e : Expr) (f : FX) : Prop where
  pe : ∀ Z, Lk X F Z → PE X e (tX F Z f)
def fXd (f : FE) : FX := fun δ => (f δ).bind fun w => w.dat.bind fun x => .ret (.d x)
def fXl (fa : FA) : FX := fun δ => (fa δ).bind fun ws => (datL ws).bind fun ds => (small ds).bind fun _ => .ret (.fr (.list ds))
def fXlist (f : FE) : FX := fun δ => (f δ).bind fun w => w.rd.bind fun x => (T.of (gList [x])).bind fun d => .ret (.fr d)
def fXdict : FX := fun _ => .ret (.fr (.dict []))
section
variable {F : Fc} {M M' : List Addr} {σ : L2.St} {H H' : Hp} {δ : Sl} {n n' : Nat} {v : V} {w : WX}
theorem goX {Z : ZF} {f : FX} {A : WX → Nat → Prop} {Q : VK} (ok : Ok F M σ H δ n) (q : (f δ).wp n A (fun x n' => Z x n' δ)) (k : ∀ w n' v M' H', A w n' → VX F M H M' H' v w → Kp F M H H' → Ok F M' σ H' δ n' → Q v H') : tX F Z f σ H Q :=
  ⟨M, δ, n, ok, T.wp_mono (fun w n' a v M' H' x1 k1 o1 => k w n' v M' H' a x1 k1 o1) (fun _ _ z => z) _ _ q⟩
/-- what is seen stays seen -/
theorem VX.see (h : VX F M H M' H' v w) (k : Kp F M H H') : Same (hid M H) (hid M' H') := by
  cases w with
  | d x => rw [h.1]; exact k.s
  | fr x =>
    obtain ⟨p, o, _, rfl, np, _⟩ := h
    intro b u e
    obtain ⟨b1, b2⟩ := hid_some e
    refine hid_mk (fun z => ?_) (hid_some (k.s b u e)).2
    rcases List.mem_cons.mp z with rfl | z
    · rw [np] at b2
      cases b2
    · exact b1 z
theorem VX.sub (h : VX F M H M' H' v w) : ∀ p ∈ M, p ∈ M' := by
  cases w with
  | d x => rw [h.1]; exact fun p hp => hp
  | fr x =>
    obtain ⟨p, o, _, rfl, _⟩ := h
    exact fun q hq => List.mem_cons_of_mem _ hq
/-- ready to be put into a slot -/
def PutX (F : Fc) (M : List Addr) (σ : L2.St) (H : Hp) (δ : Sl) (v : V) : WX → Prop
  | .d x => DV F.K (hid M H) v x
  | .fr x => ∃ p o, v = .ref p ∧ p ∈ M ∧ p ∉ F.M0 ∧ H p = some o ∧ HV F.K (hid M H) o x ∧ x.kind = 0 ∧ ∀ (j : Nat) (y : D), δ[j]? = some (some (S.own y)) → σ[j]? ≠ some (some (V.ref p))
theorem VX.put (h : VX F M H M' H' v w) (ok : Ok F M σ H δ n) (ok' : Ok F M' σ H' δ n') : PutX F M' σ H' δ v w := by
  cases w with
  | d x =>
    obtain ⟨rfl, h⟩ := h
    exact h
  | fr x =>
    obtain ⟨p, o, rfl, rfl, np, e, hv, nx⟩ := h
    have hp := ok.fresh np
    refine ⟨p, o, rfl, List.mem_cons_self .., fun z => hp (ok.sub p z), e, hv, nx, fun j y ej es => ?_⟩
    obtain ⟨q, u, g1, g2, _⟩ := ok.own j y ej
    rw [es] at g1
    cases g1
    exact hp g2
theorem HV.dx {K : Kx} {G : Hp} {o : HO} {x : D} (h : HV K G o x) (nx : x.kind = 0) : ∀ C dx fs, o ≠ .ins C dx fs := fun C dx fs z => by
  subst z
  cases h
  cases nx
theorem PutX.set {i : Nat} (h : PutX F M σ H δ v w) (ok : Ok F M σ H δ n) : Ok F M (σ.set i (some v)) H (δ.set i (some w.s)) n := by
  cases w with
  | d x => exact ok.set (w := .d x) h fun _ => nol_d
  | fr x =>
    obtain ⟨p, o, rfl, hp, h0, e, hv, nx, hn⟩ := h
    exact ok.setOwn hp h0 (fun j y ej es => absurd es (hn j y ej)) e hv (fun C dx fs z => absurd z (hv.dx nx C dx fs)) (kind_isObj (y := .none) nx) (fun k z => by rw [kind_tagOf (y := .none) nx] at z; cases z)
/-- the first of two -/
theorem PutX.step {M2 : List Addr} {H2 : Hp} {v2 : V} {w2 : WX} (h : PutX F M σ H δ v w) (ok : Ok F M σ H δ n) (h2 : VX F M H M2 H2 v2 w2) (k : Kp F M H H2) : PutX F M2 σ H2 δ v w := by
  cases w with
  | d x => exact DV.same (h2.see k) h
  | fr x =>
    obtain ⟨p, o, rfl, hp, h0, e, hv, nx, hn⟩ := h
    exact ⟨p, o, rfl, h2.sub p hp, h0, k.f p hp (fun q eq z => h0 (by rw [z]; exact (ok.wel q eq).1)) o hv.tbl e, hv.same (h2.see k), nx, hn⟩
/-- the second, behind the first's store -/
theorem PutX.behind {M2 : List Addr} {H2 : Hp} {v2 : V} {w2 : WX} {i : Nat} (h : PutX F M σ H δ v w) (ok : Ok F M σ H δ n) (h2 : VX F M H M2 H2 v2 w2) (p2 : PutX F M2 σ H2 δ v2 w2) : PutX F M2 (σ.set i (some v)) H2 (δ.set i (some w.s)) v2 w2 := by
  cases w2 with
  | d x => exact p2
  | fr x =>
    obtain ⟨p, o, rfl, hp, h0, e, hv, nx, hn⟩ := p2
    refine ⟨p, o, rfl, hp, h0, e, hv, nx, fun j y ej es => ?_⟩
    rcases set_cases ej with ⟨rfl, eq, hl⟩ | ⟨ne, ej'⟩
    · rw [List.getElem?_set_self (by rw [ok.len]; exact hl)] at es
      cases es
      cases w with
      | d x => cases eq
      | fr x =>
        obtain ⟨p', o', e1, hp', _⟩ := h
        cases e1
        obtain ⟨p3, o3, e3, _, np, _⟩ := h2
        cases e3
        exact ok.fresh np hp'
    · rw [List.getElem?_set_ne ne] at es
      exact hn j y ej' es
end
section
variable {X : Cx} {F : Fc} {e : Expr} {es : List Expr} {f : FE} {fx gx : FX} {fa : FA} {i j : Nat} {x y : Str} {pos p : Pos}
theorem fx_d (h : PF X F e f) : PFX X F e (fXd f) := ⟨fun Z tk => pe_to (h.pe Z tk) fun σ H Q ⟨M, δ, n, ok, q⟩ => goE ok ((T.wp_bind _ _).mp q) fun w n1 v H1 q1 s1 ok1 v1 => by
  obtain ⟨x, rfl, hv, q2⟩ := dv_dat v1 ((T.wp_bind _ _).mp q1)
  exact q2 v M H1 ⟨rfl, hv⟩ s1 ok1⟩
theorem none_back {M : List Addr} {σ : L2.St} {H H1 : Hp} {δ : Sl} {n n1 : Nat} {p : Addr} (ok : Ok F M σ H δ n) (k : Kp F M H H1) (ok1 : Ok F M σ H1 δ n1) (h : H1 p = none) : H p = none := by
  cases z : H p with
  | none => rfl
  | some o =>
    have hm := ok1.fresh h
    have := (hid_some (k.s p o (hid_mk hm z))).2
    rw [h] at this
    cases this
theorem fx_lst (h : PFA X F es fa) : PFX X F (.List es pos) (fXl fa) := ⟨fun Z tk => pe_to (pe_lstN (h.pa Z tk)) fun σ H Q ⟨M, δ, n, ok, q⟩ => goA ok ((T.wp_bind _ _).mp q) fun ws n1 vs H1 q1 s1 ok1 v1 => by
  obtain ⟨ds, hv, q2⟩ := dvs_dat v1 ((T.wp_bind _ _).mp q1)
  obtain ⟨l, q3⟩ := small_wp ((T.wp_bind _ _).mp q2)
  refine ⟨by rw [hv.length]; exact l, fun p H' np s e => ?_⟩
  obtain ⟨a1, a2⟩ := ok1.add np s e
  exact q3 _ (p :: M) H' ⟨p, _, rfl, rfl, none_back ok s1 ok1 np, e, .lst (hv.same a2), rfl⟩ (s1.trans (Kp.of s)) a1⟩
theorem fx_list (hg : Gl X "list") (hm : X.mg "list" = none) (h : PF X F e f) (hK : X.K = F.K.K := by rfl) (he : starEach [e] X.env = (false, eval e X.env) :: starEach [] X.env := by rfl) (hpl : (backTo pos (starEach [] X.env)).any (·.1) = false := by rfl) : PFX X F (.Call (.Name "list" p) [e] [] pos) (fXlist f) :=
  ⟨fun Z tk => pe_to (pe_callTy call_list_of hg hm (by decide +kernel) (pa_cons (h.pe Z tk) pa_nil he) (by decide) (by decide) he hpl) fun σ H Q ⟨M, δ, n, ok, q⟩ => goE ok ((T.wp_bind _ _).mp q) fun w n1 v H1 q1 s1 ok1 v1 => by
    obtain ⟨x, hx, q2⟩ := rv_rd v1 ((T.wp_bind _ _).mp q1)
    obtain ⟨d, e, q3⟩ := T.wp_of.mp ((T.wp_bind _ _).mp q2)
    have fin : ∀ vs ds, DVs F.K (hid M H1) vs ds → d = .list ds → ∀ l, H1 l = none → Q (.ref l) (upd H1 l (.lst vs)) := fun vs ds hv ed l hl => by
      subst ed
      obtain ⟨a1, a2⟩ := ok1.add hl (same1 hl) upd_same
      exact q3 _ (l :: M) _ ⟨l, _, rfl, rfl, none_back ok s1 ok1 hl, upd_same, .lst (hv.same a2), rfl⟩ (s1.trans (Kp.of (same1 hl))) a1
    match x, hx, e with
    | .list ds, hx, e =>
      cases e
      obtain ⟨a, vs, rfl, h1, h2⟩ := hx.list
      exact ⟨a, vs, rfl, .inl (SqL.of h1), fin vs ds h2 rfl⟩
    | .tuple ds, hx, e =>
      cases e
      obtain ⟨a, vs, rfl, h1, h2, _⟩ := hx.tuple
      exact ⟨a, vs, rfl, .inr (by rw [hK]; exact h1), fin vs ds h2 rfl⟩⟩
theorem fx_dict : PFX X F (.Dict [] [] pos) fXdict := ⟨fun Z tk => pe_to pe_dnewK fun σ H Q ⟨M, δ, n, ok, q⟩ => fun l hl => by
  obtain ⟨a1, a2⟩ := ok.add hl (same1 hl) upd_same
  exact q _ (l :: M) _ ⟨l, _, rfl, rfl, hl, upd_same, .dic .nil, rfl⟩ (Kp.of (same1 hl)) a1⟩
/-! ### stores -/
def sSetX (i : Nat) (f : FX) : FS := fun δ => (lft δ (f δ)).bind fun w => .ret (.nx (δ.set i (some w.s)))
def sParX (i j : Nat) (f g : FX) : FS := fun δ => (lft δ (f δ)).bind fun w => (lft δ (g δ)).bind fun u => .ret (.nx ((δ.set i (some w.s)).set j (some u.s)))
def sPar3X (i j l : Nat) (f g h : FX) : FS := fun δ => (lft δ (f δ)).bind fun w => (lft δ (g δ)).bind fun u => (lft δ (h δ)).bind fun t => .ret (.nx (((δ.set i (some w.s)).set j (some u.s)).set l (some t.s)))
theorem pfs_setX {pos' : Pos} (hN : X.N.Nodup) (hi : X.N[i]? = some x) (hx : Loc X.env.scope x) (he : PFX X F e fx) (hs : swapsWith e (some (.Name x pos')) pos.line X.env = pure false := by rfl)
    (hf : X.fn x = true ∨ X.env.scope.names.lookup x = some .local := by first | exact .inl rfl | exact .inr rfl | assumption) : PFS X F (.Assign [.Name x pos'] e pos) (sSetX i fx) :=
  ⟨fun Z tk => ps_to (ps_set hN hi hx (he.pe Z tk) hs hf) fun D σ H ⟨M, δ, n, ok, q⟩ => goX ok ((T.wp_mapEx _ _).mp ((T.wp_bind _ _).mp q)) fun w n1 v M' H1 q1 x1 s1 ok1 => q1 M' _ H1 ((x1.put ok ok1).set ok1)⟩
theorem pfs_parX {a c : Expr} {px py pt : Pos} {kt k2 pt2} (hc : X.calm = true) (hN : X.N.Nodup) (hi : X.N[i]? = some x) (hj : X.N[j]? = some y) (hij : i ≠ j)
    (hx : X.env.scope.names.lookup x = some .local) (hy : X.env.scope.names.lookup y = some .local) (ha : PFX X F a fx) (hb : PFX X F c gx)
    (hw : swappedStores [.Tuple [.Name x px, .Name y py] kt pt] (.Tuple [a, c] k2 pt2) X.env = pure (some [x, y])) (he : starEach [a, c] X.env = (false, eval a X.env) :: starEach [c] X.env := by rfl) (he2 : starEach [c] X.env = (false, eval c X.env) :: starEach [] X.env := by rfl)
    (hs : swapsWithSole [.Tuple [.Name x px, .Name y py] kt pt] (.Tuple [a, c] k2 pt2) pos.line X.env = pure false := by rfl) :
    PFS X F (.Assign [.Tuple [.Name x px, .Name y py] kt pt] (.Tuple [a, c] k2 pt2) pos) (sParX i j fx gx) :=
  ⟨fun Z tk => ps_to (ps_par hc hN hi hj hij hx hy (pa_cons (ha.pe Z tk) (pa_cons (hb.pe Z tk) pa_nil he2) he) hw hs) fun D σ H ⟨M, δ, n, ok, q⟩ => goX ok ((T.wp_mapEx _ _).mp ((T.wp_bind _ _).mp q)) fun w n1 v M1 H1 q1 x1 s1 ok1 =>
    goX ok1 ((T.wp_mapEx _ _).mp ((T.wp_bind _ _).mp q1)) fun u n2 v2 M2 H2 q2 x2 s2 ok2 => by
      have p1 := x1.put ok ok1
      have p1' := p1.step ok1 x2 s2
      have p2 := p1.behind (i := i) ok1 x2 (x2.put ok1 ok2)
      exact ⟨v, v2, rfl, q2 M2 _ H2 (p2.set (p1'.set ok2))⟩⟩
/-! ### written -/
def listAt (δ : Sl) (i : Nat) : R (List D) := match δ[i]? with
  | some (some (.own (.list xs))) => .ret xs
  | _ => .bad
theorem listAt_wp {δ : Sl} {n : Nat} {Q : List D → Nat → Prop} {Z' : Xn × Sl → Nat → Prop} (q : (lft δ (listAt δ i)).wp n Q Z') : ∃ xs, δ[i]? = some (some (.own (.list xs))) ∧ Q xs n := by
  have q' := (T.wp_mapEx _ _).mp q
  unfold listAt at q'
  split at q'
  · rename_i xs e
    exact ⟨xs, e, q'⟩
  · exact q'.elim
def sApp (i : Nat) (f : FE) : FS := fun δ => (lft δ (listAt δ i)).bind fun xs => (lft δ (f δ)).bind fun w => (lft δ w.dat).bind fun d => if xs.length < 1000000 then .ret (.nx (δ.set i (some (S.own (.list (xs ++ [d])))))) else .bad
theorem own_list {M : List Addr} {σ : L2.St} {H : Hp} {δ : Sl} {n : Nat} {xs : List D} (ok : Ok F M σ H δ n) (e : δ[i]? = some (some (.own (.list xs)))) : ∃ p vs, σ[i]? = some (some (V.ref p)) ∧ p ∈ M ∧ (∀ q, F.wl = some q → p ≠ q.1) ∧ H p = some (.lst vs) ∧ DVs F.K (hid M H) vs xs := by
  obtain ⟨p, o, b1, b2, b3, b4, b5, b6⟩ := ok.own i _ e
  cases b5 with
  | lst h =>
    refine ⟨p, _, b1, b2, fun q eq z => ?_, b4, h⟩
    rcases b3 with b3 | ⟨s, es, z2, _⟩
    · exact b3.1 (by rw [z]; exact (ok.wel q eq).1)
    · exact (ok.sw s es).2 q eq (z.symm.trans z2)
theorem pfs_append {np apos cpos : Pos} (hv : PE X (.Name x np) (tVar i)) (ha : PF X F e f) (hK : X.K = F.K.K := by rfl)
    (hbase : attributeBase (.Name x np) "append" X.env (eval (.Name x np) X.env) = eval (.Name x np) X.env := by rfl)
    (hfew : ((backTo cpos (starEach [e] X.env)).all (fun x => !x.1) && (backToKw cpos (keywordEach [] X.env)).all (fun x => x.1.isSome) && decide (([e] : List Expr).length + ([] : List Keyword).length + (if ([] : List Keyword).isEmpty then 0 else 1) < 30)) = true := by rfl)
    (hline : (apos.endLine == cpos.line) = true := by rfl) (hs : starEach [e] X.env = (false, eval e X.env) :: starEach [] X.env := by rfl) (hplain : (backTo cpos (starEach [] X.env)).any (·.1) = false := by rfl)
    (hsw : swapsWith (.Call (.Attribute (.Name x np) "append" apos) [e] [] cpos) none pos.line X.env = pure false := by rfl) :
    PFS X F (.Expr (.Call (.Attribute (.Name x np) "append" apos) [e] [] cpos) pos) (sApp i f) :=
  ⟨fun Z tk => ps_to (ps_expr (pe_bm PySem.F.plainAttrs_list PySem.F.slot_list_append PySem.F.type_list_append mt_append hv (pa_cons (ha.pe Z tk) pa_nil hs) hbase hfew hline hs hplain) hsw) fun D σ H ⟨M, δ, n, ok, q⟩ => by
    obtain ⟨xs, e0, q1⟩ := listAt_wp ((T.wp_bind _ _).mp q)
    obtain ⟨p, vs, b1, b2, b3, b4, b5⟩ := own_list ok e0
    refine ⟨_, b1, Or.inl ⟨rfl, vs, SqL.of b4⟩, lftE ok ((T.wp_bind _ _).mp q1) fun w n1 v H1 q2 s1 ok1 v1 => ?_⟩
    obtain ⟨d, rfl, hv, q3⟩ := lft_dat v1 ((T.wp_bind _ _).mp q2)
    obtain ⟨hl, q4⟩ := wp_if q3
    have c4 := s1.f p b2 b3 _ (fun _ z => by cases z) b4
    exact ⟨p, vs, v, rfl, rfl, c4, by rw [b5.length]; exact Nat.lt_of_lt_of_le hl (by decide), q4 M σ _ (ok1.write e0 b1 c4 (.lst ((b5.same s1.s).append (.cons hv .nil))) (fun _ _ _ z => by cases z) rfl)⟩⟩
/-- x.extend(list or tuple) -/
def seqOf : D → Option (List D)
  | .list ds => some ds
  | .tuple ds => some ds
  | _ => none
def listOnly : D → Option (List D)
  | .list ds => some ds
  | _ => none
def sExt (i : Nat) (f : FE) : FS := fun δ => (lft δ (listAt δ i)).bind fun xs => (lft δ (f δ)).bind fun w => (lft δ w.dat).bind fun d => (lft δ (T.of (listOnly d))).bind fun ys => if xs.length + ys.length ≤ 1000000 then .ret (.nx (δ.set i (some (S.own (.list (xs ++ ys)))))) else .bad
theorem pfs_extend {np apos cpos : Pos} (hv : PE X (.Name x np) (tVar i)) (ha : PF X F e f) (hK : X.K = F.K.K := by rfl)
    (hbase : attributeBase (.Name x np) "extend" X.env (eval (.Name x np) X.env) = eval (.Name x np) X.env := by rfl)
    (hfew : ((backTo cpos (starEach [e] X.env)).all (fun x => !x.1) && (backToKw cpos (keywordEach [] X.env)).all (fun x => x.1.isSome) && decide (([e] : List Expr).length + ([] : List Keyword).length + (if ([] : List Keyword).isEmpty then 0 else 1) < 30)) = true := by rfl)
    (hline : (apos.endLine == cpos.line) = true := by rfl) (hs : starEach [e] X.env = (false, eval e X.env) :: starEach [] X.env := by rfl) (hplain : (backTo cpos (starEach [] X.env)).any (·.1) = false := by rfl)
    (hsw : swapsWith (.Call (.Attribute (.Name x np) "extend" apos) [e] [] cpos) none pos.line X.env = pure false := by rfl) :
    PFS X F (.Expr (.Call (.Attribute (.Name x np) "extend" apos) [e] [] cpos) pos) (sExt i f) :=
  ⟨fun Z tk => ps_to (ps_expr (pe_bm PySem.F.plainAttrs_list PySem.F.slot_list_extend PySem.F.type_list_extend mt_extend hv (pa_cons (ha.pe Z tk) pa_nil hs) hbase hfew hline hs hplain) hsw) fun D σ H ⟨M, δ, n, ok, q⟩ => by
    obtain ⟨xs, e0, q1⟩ := listAt_wp ((T.wp_bind _ _).mp q)
    obtain ⟨p, vs, b1, b2, b3, b4, b5⟩ := own_list ok e0
    refine ⟨_, b1, Or.inl ⟨rfl, vs, SqL.of b4⟩, lftE ok ((T.wp_bind _ _).mp q1) fun w n1 v H1 q2 s1 ok1 v1 => ?_⟩
    obtain ⟨d, rfl, hv, q3⟩ := lft_dat v1 ((T.wp_bind _ _).mp q2)
    obtain ⟨ys, ey, q4⟩ := T.wp_of.mp ((T.wp_mapEx _ _).mp ((T.wp_bind _ _).mp q3))
    obtain ⟨hl, q5⟩ := wp_if q4
    have c4 := s1.f p b2 b3 _ (fun _ z => by cases z) b4
    match d, hv, ey with
    | .list ds, .lst (a := a) (vs := us) h1 h2, ey =>
      cases ey
      exact ⟨p, a, vs, us, rfl, rfl, c4, hid_to _ _ h1, by rw [b5.length, h2.length]; exact big hl, q5 M σ _ (ok1.write e0 b1 c4 (.lst ((b5.same s1.s).append h2)) (fun _ _ _ z => by cases z) rfl)⟩⟩
/-- from here on the object is written no more -/
def sFrz (i : Nat) (f : FS) : FS := fun δ => match δ[i]? with
  | some (some (.own x)) => if x.isObj = false then f (δ.set i (some (S.v (.d x)))) else .bad
  | _ => .bad
theorem pfb_frz {st : List Stmt} {fs : FS} (j : Nat) (h : PFB X F st fs) : PFB X F st (sFrz j fs) := ⟨fun Z tk => pss_to (h.ps Z tk) fun D σ H ⟨M, δ, n, ok, q⟩ => by
  unfold sFrz at q
  split at q
  · rename_i x e
    obtain ⟨nx, q1⟩ := wp_if q
    obtain ⟨p, o, b1, b2, b3, b4, b5, b6⟩ := ok.own j x e
    exact ⟨_, _, n, ok.frz e b1 nx, q1⟩
  · exact q.elim⟩
end
end FL

/-! try with several clauses `except x as n`, of which one takes whatever the body lets out; clauses behind these are never asked. -/
namespace TryA
open PySem PySem.Spec PyProof.Rows L2
/-- a clause: the class, the slot of its name, its suite -/
structure Cl where
  c : Value
  i : Nat
  ts : Addr → Value → Option Addr → TS
def wA (K : PySem.W.Frag) (D : Ends) : List Cl → WX
  | [] => fun _ _ _ _ => False
  | k :: r => fun cls d σ H => ∃ b, PySem.W.exmOne K cls k.c = some b ∧
      (b = true → ∀ a, H a = none → k.ts a cls d { nx := fun σ' H' => D.nx (σ'.set k.i none) H', rt := D.rt, bk := fun σ' H' => D.bk (σ'.set k.i none) H', ct := fun σ' H' => D.ct (σ'.set k.i none) H' } (σ.set k.i (some (.ref a))) H) ∧
      (b = false → wA K D r cls d σ H)
inductive Cls' (X : Cx) : List ExceptHandler → List Cl → Prop
  | nil {hds : List ExceptHandler} : Cls' X hds []
  | cons {x n : Str} {k : Cl} {b₀ : Stmt} {suite : List Stmt} {np pp : Pos} {hds : List ExceptHandler} {l : List Cl} (hN : X.N[k.i]? = some n) (hl : X.env.kindOf n = some .local) (hc : Names X x k.c)
      (hs : ∀ (a : Addr) (oe : Obj) (cls : Value) (d : Option Addr) (pn : List (Addr × Obj)), Zc cls d oe → (∃ vs, oe.data = .fields vs) → PSs (X.suite a ((a, oe) :: pn)) (b₀ :: suite) (k.ts a cls d)) (r : Cls' X hds l) :
      Cls' X (.ExceptHandler (some (.Name x np)) (some n) (b₀ :: suite) pp :: hds) (k :: l)
section
variable {X : Cx} {pins : List (Addr × Obj)} {D : Ends} {B : Heap} {σ : L2.St} {H : Hp} {sI s3 : Shared} {a : Addr} {cls : Value} {d : Option Addr}
/-- the clauses, asked of the exception that is noted and lies on the ground -/
theorem run_clauses (hf : X.env.frame = some X.env.locals) (hst : X.stack = X.env :: X.outer) (nd : X.N.Nodup) (J : Inv X pins σ H sI) (nb : ∀ b o, sI.heap.get? b = some o → b ∉ frs X.stack → B.get? b = some o) (os : s3.os = sI.os) (ag : AllBare s3.gens)
    (up : sI.heap.UpToSlots s3.heap) (fl : HandSPX.FlyingZ B (X.env :: X.outer) a (Zc cls d) s3.heap) (na : H a = none) :
    ∀ (hds : List ExceptHandler) (l : List Cl), Cls' X hds l → wA X.K D l cls d σ H → wpAny (model X.prog X.w) X.A (handleBy (.ref a) X.env hds) (SP X pins D) X.xe s3 := by
  have ok := J.ok
  have stand : ∀ {h : Heap}, HandSPX.FlyingZ B (X.env :: X.outer) a (Zc cls d) h → sI.heap.UpToSlots h → ∃ (oe : Obj), h.get? a = some oe ∧ Zc cls d oe ∧ (∃ vs, oe.data = .fields vs) ∧ Inv (X.suite a ((a, oe) :: (X.pn ++ pins))) [] σ H { s3 with heap := h } := by
    intro h flh uph
    have I' : Inv X pins σ H { s3 with heap := h } := J.landed nb flh.1 uph os ag
    obtain ⟨oe, vs, ho, hz, hd⟩ := flh.there
    have out : a ∉ frs (X.env :: X.outer) := fun hm => by
      obtain ⟨_, o2, e2, hnf⟩ := flh.2.2.1.mem hm
      rw [ho] at e2
      cases e2
      exact hnf _ hd
    refine ⟨oe, ho, hz, ⟨vs, hd⟩, I'.suite ho hd na (fun z => out ?_) (fun hm => ?_)⟩
    · exact List.mem_filterMap.mpr ⟨_, List.mem_cons_self, by rw [z]; exact hf⟩
    · obtain ⟨e, he, q⟩ := List.mem_filterMap.mp hm
      exact out (List.mem_filterMap.mpr ⟨e, .tail _ he, q⟩)
  intro hds l C
  induction C with
  | nil => intro w; exact w.elim
  | @cons x n k b₀ suite np pp hds l hN hl hc hs r ih =>
    rintro ⟨b, hb, yes, no⟩
    obtain ⟨oe, ho, hz, _, S⟩ := stand fl up
    refine wpAny_handleBy_cons (codeAny_handlers_test ?_) (fun q => by cases q)
    have look : PySem.W.Looks (model X.prog X.w) s3.heap (typeOf (.ref a)) cls := fun A Q E s kk q => wpAny_typeOf_ref (kk _ _ ho) (by rw [hz.1]; exact q)
    have ask := PySem.W.exm_one (M := model X.prog X.w) (J.landed nb fl.1 up os ag).kIn look hb
    have named : ∀ {Q E : Value → Shared → Prop}, Q k.c s3 → wpAny (model X.prog X.w) (X.A.mark (some (.ref a))) (eval (.Name x np) X.env) Q E s3 := fun {Q E} q => by
      obtain ⟨g1, g2, m | ⟨m, v, nn⟩⟩ := hc
      · exact ld_glob (X := X.suite a ((a, oe) :: (X.pn ++ pins))) S g1 m q g2
      · exact ld_blt (X := X.suite a ((a, oe) :: (X.pn ++ pins))) S g1 m v q nn g2
    refine named (ask.here ?_)
    cases b with
    | false => exact ih (no rfl)
    | true =>
      refine codeAny_handlers_suite_as (HandSPX.lands_againZ fl fun h4 fl4 up4 => ?_)
      obtain ⟨o4, e4, z4, d4, S4⟩ := stand fl4 (up.trans up4)
      refine store_ok (X := X.suite a ((a, o4) :: (X.pn ++ pins))) (v := .ref a) S4 nd hN (.inl hl) rfl (fun s5 S5 => ?_) (.inr hl)
      refine wpAny_mono ((hs a o4 cls d (X.pn ++ pins) z4 d4).run [] s5 _ H _ S5 (yes rfl a na)) (fun f s6 q6 => ?_) (fun _ _ z => z.elim)
      have leave : ∀ {σ6 : L2.St} {H6 : Hp} {R : Shared → Prop}, Inv (X.suite a ((a, o4) :: (X.pn ++ pins))) [] σ6 H6 s6 → (∀ s7, Inv X pins (σ6.set k.i none) H6 s7 → R s7) →
          wpAny (model X.prog X.w) X.A (do bindName X.env n .none; unbindBehindTheSuite X.env n pp) (fun _ s7 => R s7) X.xe s6 := fun {_ _ _} T6 hR => gone_ok (T6.unsuite ok) nd hN hl hR
      cases f with
      | ret u =>
        obtain ⟨v, σ6, H6, T6, rv, q⟩ := q6
        exact leave T6 fun s7 T7 => ⟨v, _, H6, T7, rv, q⟩
      | next =>
        obtain ⟨σ6, H6, T6, q⟩ := q6
        exact leave T6 fun s7 T7 => ⟨_, H6, T7, q⟩
      | brk =>
        obtain ⟨σ6, H6, T6, q⟩ := q6
        exact leave T6 fun s7 T7 => ⟨_, H6, T7, q⟩
      | cont =>
        obtain ⟨σ6, H6, T6, q⟩ := q6
        exact leave T6 fun s7 T7 => ⟨_, H6, T7, q⟩
end
variable {X : Cx} {body : List Stmt} {h₀ : ExceptHandler} {hds : List ExceptHandler} {l : List Cl} {pos : Pos} {tb : WX → TS}
theorem ps_tryA (hst : X.stack = X.env :: X.outer) (hf : X.env.frame = some X.env.locals) (nd : X.N.Nodup)
    (hb : ∀ (V : WX) (pn : List (Addr × Obj)) (xe : Value → Shared → Prop), Takes (X.tr pn xe) V → PassesOwn (model X.prog X.w) X.A X.env xe → PSs (X.tr pn xe) body (tb V)) (hh : Cls' X (h₀ :: hds) l) :
    PS X (.Try body (h₀ :: hds) [] [] pos) (fun D σ H => tb (wA X.K D l) D σ H) := by
  refine ⟨fun pins s σ H D I h => wpAny_Try_except ?_⟩
  have ok := I.ok
  have frames : X.A.frames = some (X.env :: X.outer) := by rw [ok.frames, hst]
  refine wpAny_mono ((hb (wA X.K D l) (X.pn ++ pins) _ (fun u s' caught => ?_) PassesOwn.looking).run [] s σ H D (I.toTry _) h) (fun f s1 q => ?_) (fun e s1 q => q)
  · obtain ⟨a, B, sI, pins', σ', H', cls, d, rfl, J', nb, up, sky, na, os, ag, w⟩ := caught
    show wpAny (model X.prog X.w) X.A (noteFrame (.ref a) X.env) _ _ _
    refine Sky.land Zc.steady frames hf (by rw [← hst]; exact sky) fun h3 fl3 up3 => ?_
    exact run_clauses (s3 := { s' with heap := h3 }) hf hst nd (J'.ofTry ok) nb os ag (up.trans up3) fl3 na _ _ hh w
  · cases f with
    | ret u =>
      obtain ⟨v, σ', H', J', rv, q⟩ := q
      exact ⟨v, σ', H', J'.ofTry ok, rv, q⟩
    | next =>
      obtain ⟨σ', H', J', q⟩ := q
      exact wpAny_execs_nil ⟨σ', H', J'.ofTry ok, q⟩
    | brk =>
      obtain ⟨σ', H', J', q⟩ := q
      exact ⟨σ', H', J'.ofTry ok, q⟩
    | cont =>
      obtain ⟨σ', H', J', q⟩ := q
      exact ⟨σ', H', J'.ofTry ok, q⟩
end TryA

/-! Exceptions: raise, try, a field of the one that is caught. -/
namespace FL
open PySem PySem.Spec PyProof.Rows L2 Gd Fx Stp TryA
def sRaise1 (c : Nat) (fld : Str) (f : FE) : FS := fun δ => (lft δ (f δ)).bind fun w => (lft δ w.dat).bind fun y => .ex (⟨c, [(fld, y)]⟩, δ)
section
variable {X : Cx} {F : Fc} {k c : Nat} {C Dc fI : Addr} {fd : FuncData} {ps : List Str} {x fld : Str} {e : Expr} {f : FE} {p cpos pos : Pos}
/-- raise C(e), C's own __init__ keeping e in one field -/
theorem pfs_raise1 (hc : X.calm = true) (hC : F.K.ct c = C) (TX : XC X.K C Dc fI) (n1 : PySem.W.findIn X.K (.ref C) fld = some none) (tI : PySem.W.typeIn X.K (.ref fI) = some (.type "function"))
    (F1 : FnOk X.prog X.w X.K X.mg X.base CX0 k fI fd ps (spInit1 X.K Dc fI fld)) (hr : Room (k + 1) X.A) (hb : L2.Binds X.K fd ps []) (hg : Gl X x) (hm : X.mg x = some (.ref C)) (ha : PF X F e f) (hK : X.K = F.K.K := by rfl)
    (hdb : (x == ("__debug__" : Str)) = false := by decide) (he : starEach [e] X.env = (false, eval e X.env) :: starEach [] X.env := by rfl) (hpl : (backTo cpos (starEach [] X.env)).any (·.1) = false := by rfl) :
    PFS X F (.Raise (some (.Call (.Name x p) [e] [] cpos)) none pos) (sRaise1 c fld f) := by
  refine ⟨fun Z tk => ps_to (L2.ps_raise hc tk (pmk_oex TX.toOexC TX.iC tI F1 hr hb .nil pass0 hg hm (pa_cons (ha.pe Z tk) pa_nil he) hdb he hpl)) fun De σ H ⟨M, δ, n, ok, q⟩ => lftE ok ((T.wp_bind _ _).mp q) fun w n1' v H1 q1 s1 ok1 v1 => ?_⟩
  obtain ⟨y, rfl, hv, z⟩ := lft_dat v1 ((T.wp_bind _ _).mp q1)
  refine ⟨by show 1 ≤ 1000; decide, fun a na => ⟨a, C, v, rfl, TX, n1, upd_same, fun d H2 M2 => ⟨rfl, ?_⟩⟩⟩
  obtain ⟨m1, m2, m3, m4, m5⟩ := M2
  have hd1 : H1 d = none := by
    rw [upd_ne m2] at m1
    exact m1
  refine ⟨d, _, m3, m4, hd1, ?_⟩
  have s : Same H1 (upd (del H2 a) d (.xd [(fld, v)])) := fun b o e => by
    have nb : b ≠ a := ne_of_none e na
    have nd : b ≠ d := ne_of_none e hd1
    rw [upd_ne nd, del_ne nb, m5 b nb nd, upd_ne nb]
    exact e
  exact ⟨M, δ, n1', ⟨c, [(fld, y)]⟩, ok1.same s, ⟨by rw [hC], .inr ⟨d, [v], rfl, hid_mk (ok1.fresh hd1) upd_same, .cons (DV.same (hid_same s) hv) .nil⟩⟩, z⟩
end
/-! ### the caught one -/
def notXc : Option S → Bool
  | some (.v (.xc _)) => false
  | _ => true
def noXc (δ : Sl) : Bool := δ.all notXc
def Fc.xcd (F : Fc) (z : Option (Addr × Value × Option Addr)) : Fc := { F with xc := z }
section
variable {F : Fc} {M : List Addr} {σ : L2.St} {H : Hp} {δ : Sl} {n : Nat} {z : Option (Addr × Value × Option Addr)}
theorem Ok.xcd (h : Ok F M σ H δ n) (hn : noXc δ = true) : Ok (F.xcd z) M σ H δ n where
  len := h.len
  val := fun i w e => by
    obtain ⟨v, h1, h2⟩ := h.val i w e
    refine ⟨v, h1, ?_⟩
    cases w with
    | xc x =>
      have := List.all_eq_true.mp hn _ (List.mem_of_getElem? e)
      cases this
    | _ => exact h2
  own := h.own
  dis := h.dis
  nol := h.nol
  sub := h.sub
  new := h.new
  al := h.al
  ext := h.ext
  frm := h.frm
  tab := h.tab
  wel := h.wel
  anc := h.anc
  sw := h.sw
theorem Ok.unxcd (h : Ok (F.xcd z) M σ H δ n) (hn : noXc δ = true) : Ok F M σ H δ n := (h.xcd (z := F.xc) hn : Ok ((F.xcd z).xcd F.xc) M σ H δ n)
end
def fXf (i c : Nat) (fld : Str) : FE := fun δ => match δ[i]? with
  | some (some (.v (.xc x))) => if x.c = c then match x.fs.lookup fld with
    | some y => .ret (.d y)
    | none => .bad
    else .bad
  | _ => .bad
theorem zip_at {K : Kx} {G : Hp} : ∀ {fs : List (Str × D)} {vs : List V} {f : Str} {y : D}, DVs K G vs (fs.map Prod.snd) → fs.lookup f = some y → ∃ v, ((fs.map Prod.fst).zip vs).lookup f = some v ∧ DV K G v y
  | [], _, f, y, _, e => by cases e
  | (g, z) :: fs, _, f, y, h, e => by
    cases h with
    | @cons v vs _ _ h t =>
      by_cases c : f == g
      · have e' : some z = some y := by
          rw [List.lookup, c] at e
          exact e
        cases e'
        refine ⟨v, ?_, h⟩
        show List.lookup f ((g, v) :: (fs.map Prod.fst).zip vs) = some v
        rw [List.lookup, c]
      · have c' : (f == g) = false := by simpa using c
        have e' : fs.lookup f = some y := by
          rw [List.lookup, c'] at e
          exact e
        obtain ⟨u, h1, h2⟩ := zip_at t e'
        refine ⟨u, ?_, h2⟩
        show List.lookup f ((g, v) :: (fs.map Prod.fst).zip vs) = some u
        rw [List.lookup, c']
        exact h1
section
variable {X : Cx} {F : Fc} {x fld : Str} {pos : Pos}
theorem pf_xf {a C : Addr} {oe : Obj} {cls : Value} {d : Option Addr} {pn : List (Addr × Obj)} {i c : Nat} {np : Pos} (hC : F.K.ct c = C) (T1 : XfC X.K C) (hno : PySem.W.findIn X.K (.ref C) fld = some none) (hz : Zc cls d oe) (hf : ∃ vs, oe.data = .fields vs)
    (hv : PE (X.suite a ((a, oe) :: pn)) (.Name x np) (tVar i)) (hb : attributeBase (.Name x np) fld X.env (eval (.Name x np) X.env) = eval (.Name x np) X.env := by rfl) : PF (X.suite a ((a, oe) :: pn)) (F.xcd (some (a, cls, d))) (.Attribute (.Name x np) fld pos) (fXf i c fld) := by
  refine ⟨fun Z tk => pe_to (pe_xf T1 hno hz hf hv hb) fun σ H Q ⟨M, δ, n, ok, q⟩ => ?_⟩
  unfold fXf at q
  split at q
  · rename_i xn e1
    obtain ⟨ec, q⟩ := wp_if q
    split at q
    · rename_i y ey
      obtain ⟨v, h1, a', cls', d', h2, h3, h4, h5⟩ := ok.val i _ e1
      cases h2
      subst h3
      refine ⟨_, h1, rfl, by rw [h4, ec]; exact congrArg Value.ref hC, ?_⟩
      rcases h5 with ⟨h5, _⟩ | ⟨dd, vs, h5, h6, h7⟩
      · rw [h5] at ey
        cases ey
      · obtain ⟨u, h8, h9⟩ := zip_at h7 ey
        exact ⟨dd, _, u, h5, hid_to _ _ h6, h8, q u H Kp.refl ok h9⟩
    · exact q.elim
  · exact q.elim
end
/-! ### try -/
/-- a clause: the slot of its name, which classes it takes, its suite -/
structure Hd where
  i : Nat
  m : List (Nat × Bool)
  b : FS
/-- behind a suite the name is gone -/
def outH (i : Nat) : Out → RS Out
  | .nx δ => if noXc (δ.set i none) = true then .ret (.nx (δ.set i none)) else .bad
  | .rt d => .ret (.rt d)
  | .bk δ => if noXc (δ.set i none) = true then .ret (.bk (δ.set i none)) else .bad
  | .ct δ => if noXc (δ.set i none) = true then .ret (.ct (δ.set i none)) else .bad
def hand : List Hd → Xn × Sl → RS Out
  | [], _ => .bad
  | h :: r, (x, δ) => match h.m.lookup x.c with
    | some true => if noXc δ = true then ((h.b (δ.set h.i (some (S.v (.xc x))))).noex).bind (outH h.i) else .bad
    | some false => hand r (x, δ)
    | none => .bad
def sTry (fb : FS) (l : List Hd) : FS := fun δ => (fb δ).catch_ (hand l)
inductive FCls (X : Cx) (F : Fc) : List ExceptHandler → List Hd → Prop
  | nil {hds : List ExceptHandler} : FCls X F hds []
  | cons {x n : Str} {k : Hd} {cv : Value} {b₀ : Stmt} {suite : List Stmt} {np pp : Pos} {hds : List ExceptHandler} {l : List Hd} (hN : X.N[k.i]? = some n) (hl : X.env.kindOf n = some .local) (hc : Names X x cv) (hm : ∀ c b, k.m.lookup c = some b → PySem.W.exmOne F.K.K (.ref (F.K.ct c)) cv = some b)
      (hs : ∀ (a : Addr) (oe : Obj) (cls : Value) (d : Option Addr) (pn : List (Addr × Obj)), Zc cls d oe → (∃ vs, oe.data = .fields vs) → PFB (X.suite a ((a, oe) :: pn)) (F.xcd (some (a, cls, d))) (b₀ :: suite) k.b) (r : FCls X F hds l) :
      FCls X F (.ExceptHandler (some (.Name x np)) (some n) (b₀ :: suite) pp :: hds) (k :: l)
section
variable {X : Cx} {F : Fc} {hds : List ExceptHandler} {l : List Hd}
def toCl (F : Fc) (k : Hd) (cv : Value) : Cl := ⟨cv, k.i, fun a cls d => tS (F.xcd (some (a, cls, d))) (fun _ _ _ => False) k.b⟩
theorem FCls.cl (h : FCls X F hds l) : ∃ cs : List Cl, Cls' X hds cs ∧ (X.K = F.K.K → ∀ (E : Ends) (Z : ZF) (x : Xn) (n : Nat) (M : List Addr) (δ : Sl) (σ : L2.St) (H : Hp) (cls : Value) (d : Option Addr), Ok F M σ H δ n → XnOk F.K (hid M H) cls d x → (hand l (x, δ)).wp n (edOf F E) (fun x n' => Z x.1 n' x.2) → wA X.K E cs cls d σ H) := by
  induction h with
  | nil => exact ⟨[], .nil, fun _ E Z x n M δ σ H cls d ok hx q => q.elim⟩
  | @cons x n k cv b₀ suite np pp hds l hN hl hc hm hs r ih =>
    obtain ⟨cs, ih1, ih2⟩ := ih
    refine ⟨toCl F k cv :: cs, .cons (k := toCl F k cv) hN hl hc (fun a oe cls d pn hz hf => (hs a oe cls d pn hz hf).ps _ lk0) ih1, fun hK E Z x n M δ σ H cls d ok hx q => ?_⟩
    have q' : (match k.m.lookup x.c with
      | some true => if noXc δ = true then ((k.b (δ.set k.i (some (S.v (.xc x))))).noex).bind (outH k.i) else .bad
      | some false => hand l (x, δ)
      | none => .bad : RS Out).wp n (edOf F E) (fun x n' => Z x.1 n' x.2) := q
    split at q'
    · rename_i e
      obtain ⟨nx, q1⟩ := wp_if q'
      refine ⟨true, by rw [hK, hx.1]; exact hm _ _ e, fun _ a na => ?_, (fun z => by cases z)⟩
      have ok2 : Ok (F.xcd (some (a, cls, d))) M (σ.set k.i (some (.ref a))) H (δ.set k.i (some (S.v (.xc x)))) n := (ok.xcd nx).set (w := .xc x) ⟨a, cls, d, rfl, rfl, hx⟩ fun _ z => by cases z
      refine ⟨M, _, n, ok2, T.wp_mono (fun o n' q2 => ?_) (fun _ _ z => z) _ _ ((T.wp_noex _ _).mp ((T.wp_bind _ _).mp q1))⟩
      match o, q2 with
      | .nx δ', q2 =>
        obtain ⟨nx', q3⟩ := wp_if q2
        exact fun M' σ' H' ok' => q3 M' _ H' (ok'.drop.unxcd nx')
      | .rt d', q2 => exact fun v H' r => q2 v H' ⟨⟨r.ext, r.frm, r.tab, r.al, r.wel⟩, r.val⟩
      | .bk δ', q2 =>
        obtain ⟨nx', q3⟩ := wp_if q2
        exact fun M' σ' H' ok' => q3 M' _ H' (ok'.drop.unxcd nx')
      | .ct δ', q2 =>
        obtain ⟨nx', q3⟩ := wp_if q2
        exact fun M' σ' H' ok' => q3 M' _ H' (ok'.drop.unxcd nx')
    · rename_i e
      exact ⟨false, by rw [hK, hx.1]; exact hm _ _ e, (fun z => by cases z), fun _ => ih2 hK E Z x n M δ σ H cls d ok hx q'⟩
    · exact q'.elim
theorem pfs_try {body : List Stmt} {h₀ : ExceptHandler} {pos : Pos} {fb : FS} (hst : X.stack = X.env :: X.outer) (hf : X.env.frame = some X.env.locals) (nd : X.N.Nodup) (hb : ∀ (pn : List (Addr × Obj)) (xe : Value → Shared → Prop), PFB (X.tr pn xe) F body fb) (hh : FCls X F (h₀ :: hds) l) (hK : X.K = F.K.K := by rfl) :
    PFS X F (.Try body (h₀ :: hds) [] [] pos) (sTry fb l) := by
  obtain ⟨cs, h1, h2⟩ := hh.cl
  refine ⟨fun Z tk => ps_to (ps_tryA (tb := fun V D σ H => ∃ Zb, (∀ cls d σ H, WZ F Zb cls d σ H → V cls d σ H) ∧ tS F Zb fb D σ H) hst hf nd (fun V pn xe tk _ => ⟨fun pins s σ H D I ⟨Zb, hv, q⟩ => ((hb pn xe).ps Zb (tk.imp hv)).run pins s σ H D I q⟩) h1) fun D σ H ⟨M, δ, n, ok, q⟩ => ?_⟩
  refine ⟨fun x n' δ' => (hand l (x, δ')).wp n' (edOf F D) (fun x n' => Z x.1 n' x.2), fun cls d σ' H' ⟨M', δ', n', x, ok', hx, z⟩ => h2 hK D Z x n' M' δ' σ' H' cls d ok' hx z, M, δ, n, ok, (T.wp_catch _ _).mp q⟩
end
end FL

/-! A lambda handed to a def, with or without one default; the wished exceptions told slot by slot. -/
namespace Lm
open PySem PySem.Spec PyProof.Rows L2 LamX Gd
/-- the lambda's object -/
abbrev lamO (q : Str) (params : Arguments) (body : Expr) (scope : Scope) (clo : List (Str × Addr)) (dV doc pm : Value) (c' : Addr) (ctv : Value) : Obj := PySem.W.kdv_obj "<lambda>" q params (.expr body) scope clo dV doc pm c' ctv
section
variable {X : Cx} {pins : List (Addr × Obj)} {σ : L2.St} {H : Hp} {s : Shared}
theorem tail3 {T : List (Addr × Str)} {c P : Addr} {params : Arguments} {body : Expr} {scope : Scope} {pos : Pos} {dV : Value} {E : Value → Shared → Prop} {Q : Value → Shared → Prop} (I : Inv X pins σ H s) (TB : TabB X.base X.mg c P) (hcode : X.env.code = .ref c)
    (hm : (P, X.env.qual ++ "<lambda>") ∈ T) (hu : ∀ p ∈ T, p.1 = P → p.2 = X.env.qual ++ "<lambda>") (hT : Tabs T H) (hfree : ∀ y ∈ scope.names, y.2 = .free → ∃ c, X.env.cells.lookup y.1 = some c)
    (h : ∀ (f c' : Addr) (doc pm ctv : Value) (H1 : Hp) (s' : Shared), Inv X pins σ H1 s' → (∀ b o, b ≠ P → H b = some o → H1 b = some o) → Tabs T H1 → (∀ b o, s.heap.get? b = some o → H b = none → s'.heap.get? b = some o ∧ H1 b = none) →
      s'.heap.get? f = some (lamO (X.env.qual ++ "<lambda>") params body scope (cloFrom X.env.cells scope.names []) dV doc pm c' ctv) → H1 f = none → f ∉ frs X.stack → H1 c' = some (CodeO c' (X.env.qual ++ "<lambda>")) → Q (.ref f) s') :
    wpAny (model X.prog X.w) X.A (makeTail "<lambda>" (X.env.qual ++ "<lambda>") params (.expr body) scope X.env dV .none none pos pos.line) Q E s := by
  obtain ⟨ps, hP, ht, told⟩ := hT _ hm
  have atP : s.heap.get? P = some { cls := .none, data := .fields ps } := I.hok P _ hP
  have young : ∀ f, s.heap.objs.size ≤ f → f ∉ frs X.stack := fun f hf z => (List.mem_cons.mp (I.stkSub _ z)).elim (fun e => Nat.lt_irrefl _ (Nat.lt_of_lt_of_le (by have := I.lt; rw [← e] at this; exact this) hf)) (I.nofs hf)
  have notP : ∀ b, H b = none → b ≠ P := fun b e z => by
    rw [z, hP] at e
    cases e
  cases hc : codeAmong pos ps.toList with
  | some cv =>
    obtain ⟨c', rfl, hco⟩ := told pos cv hc
    refine PySem.W.kdv_makeTailHit (mg := X.mg) (c := c) (P := P) (ps := ps) (closure_ok hfree) I.ok.glob (I.mod.glob.keeps I.bk) hcode (TB.code.keeps I.bk) atP ht hc (TB.bm.keeps I.bk) fun ctv doc h' tk kp hsz => ?_
    exact h h'.objs.size c' doc _ ctv H _ (I.kept (t' := tk) fun b o e => Heap.get?_push_of_some _ (kp b o e)) (fun _ _ _ e => e) hT (fun b o e n => ⟨Heap.get?_push_of_some _ (kp b o e), n⟩) (Heap.get?_push_size _ rfl) (I.hok.fresh hsz) (young _ hsz) hco
  | none =>
    refine PySem.W.kdv_makeTail (mg := X.mg) (c := c) (P := P) (ps := ps) (closure_ok hfree) I.ok.glob (I.mod.glob.keeps I.bk) hcode (TB.code.keeps I.bk) atP ht hc TB.gP (TB.bm.keeps I.bk) fun c' ctv doc h' tk kp hge hlt rec tab => ?_
    obtain ⟨c2, oc, vs, t, ec, hoc, hd, hv⟩ := rec
    cases ec
    have grow : s.heap.objs.size ≤ h'.objs.size := Nat.le_trans hge (Nat.le_of_lt hlt)
    have freshC : H c' = none := I.hok.fresh hge
    have I1 := inv_table (t' := tk) (more := #[rawInt pos.line, rawInt pos.col, .ref c']) (h' := h'.push (lamO (X.env.qual ++ "<lambda>") params body scope (cloFrom X.env.cells scope.names []) dV doc ((X.mg "__name__").getD .none) c' ctv)) I hP
      (fun b o nb e => Heap.get?_push_of_some _ (kp b o nb e)) (Heap.get?_push_of_some _ tab) hge ⟨oc, vs, t, Heap.get?_push_of_some _ hoc, hd, hv⟩
    have stay : ∀ b o, b ≠ P → H b = some o → (upd (upd H P (.tbl (ps ++ #[rawInt pos.line, rawInt pos.col, .ref c']))) c' (CodeO c' (X.env.qual ++ "<lambda>"))) b = some o := fun b o nP e => by
      rw [upd_ne (ne_of_none e freshC), upd_ne nP]
      exact e
    have notTbl : ∀ b q, H b = some (CodeO b q) → b ≠ P := fun b q e z => by
      rw [z, hP] at e
      exact codeO_ne ps (Option.some.inj e).symm
    refine h h'.objs.size c' doc ((X.mg "__name__").getD .none) ctv _ _ I1 stay (fun p hp => ?_) (fun b o e n => ⟨Heap.get?_push_of_some _ (kp b o (notP b n) e), ?_⟩) (Heap.get?_push_size _ rfl) ?_ (young _ grow) upd_same
    · by_cases hb : p.1 = P
      · have eL : (ps ++ #[rawInt pos.line, rawInt pos.col, .ref c']).toList = ps.toList ++ [rawInt pos.line, rawInt pos.col, .ref c'] := by simp
        rw [hu p hp hb, hb]
        refine ⟨ps ++ #[rawInt pos.line, rawInt pos.col, .ref c'], by rw [upd_ne (ne_of_none hP freshC), upd_same], by rw [eL]; exact PySem.TriplesOk_snoc _ _ _ _ ht, fun p' cv z => ?_⟩
        rw [eL] at z
        rcases among_app _ ht z with z | z
        · obtain ⟨c0, e1, e2⟩ := told p' cv z
          exact ⟨c0, e1, stay _ _ (notTbl _ _ e2) e2⟩
        · exact ⟨c', z, upd_same⟩
      · obtain ⟨qs, a1, a2, a3⟩ := hT p hp
        refine ⟨qs, by rw [upd_ne (ne_of_none a1 freshC), upd_ne hb]; exact a1, a2, fun p' cv z => ?_⟩
        obtain ⟨c0, e1, e2⟩ := a3 p' cv z
        exact ⟨c0, e1, stay _ _ (notTbl _ _ e2) e2⟩
    · have nb : b < s.heap.objs.size := Heap.lt_size e
      rw [upd_ne (Nat.ne_of_lt (Nat.lt_of_lt_of_le nb hge)), upd_ne (notP b n)]
      exact n
    · rw [upd_ne (Nat.ne_of_gt hlt), upd_ne (Nat.ne_of_gt (Nat.lt_of_lt_of_le (Heap.lt_size atP) grow))]
      exact I.hok.fresh grow
end
/-- what the lambda's own call binds: nothing, or its one parameter to its default -/
structure Bnd (scope : Scope) (N : List Str) (binds : List (Str × Value)) : Prop where
  loc : ∀ y ∈ binds, scope.names.lookup y.1 = some .local
structure LamG (N : List Str) (sc scope : Scope) : Prop where
  kind : scope.kind = .function
  co : scope.isCoroutine = false
  gen : scope.isGenerator = false
  own : ∀ y ∈ scope.names, y.2 ≠ .cell ∧ (y.2 = .local → y.1 ∉ N)
  free : ∀ y ∈ scope.names, y.2 = .free → sc.names.lookup y.1 = some .cell ∨ sc.names.lookup y.1 = some .free
def lamGB (N : List Str) (sc scope : Scope) : Bool :=
  decide (scope.kind = .function) && (!scope.isCoroutine && (!scope.isGenerator && scope.names.all fun y => !decide (y.2 = .cell) && ((!decide (y.2 = .local) || decide (y.1 ∉ N)) && (!decide (y.2 = .free) || (decide (sc.names.lookup y.1 = some .cell) || decide (sc.names.lookup y.1 = some .free))))))
theorem lamG_by {N : List Str} {sc scope : Scope} (h : lamGB N sc scope = true) : LamG N sc scope := by
  unfold lamGB at h
  simp only [Bool.and_eq_true, Bool.or_eq_true, Bool.not_eq_true', decide_eq_true_eq, decide_eq_false_iff_not, List.all_eq_true] at h
  obtain ⟨h1, h2, h3, h4⟩ := h
  exact ⟨h1, h2, h3, fun y hy => ⟨(h4 y hy).1, fun e => (h4 y hy).2.1.resolve_left fun z => z e⟩, fun y hy e => (h4 y hy).2.2.resolve_left fun z => z e⟩
section
variable {X : Cx} {pins : List (Addr × Obj)} {σ : L2.St} {H HZ : Hp} {s s1 : Shared}
theorem LamG.has {scope : Scope} (L : LamG X.N X.env.scope scope) (ok : X.Ok) : ∀ y ∈ scope.names, y.2 = .free → ∃ c, X.env.cells.lookup y.1 = some c := fun y hy e => ok.has _ (L.free y hy e)
/-- the lambda's frame begins -/
theorem start3 {A : Around} {outer : List Env} {E : XK} {scope : Scope} {f c' : Addr} {h₁ : Heap} {tk : Nat} {m₁ : Str → Option Value} (I : Inv X pins σ H s) (L : LamG X.N X.env.scope scope) (e0 : Env0 X.prog X.w X.K X.mg X.base A outer s1 HZ) (hd : A.handled = none)
    (un : Un (frs X.stack) [] H HZ s.heap s1.heap) (hns : h₁.Ns s1.heap.objs.size m₁) (kp : ∀ b o, s1.heap.get? b = some o → h₁.get? b = some o) : Inv (lamCx X A outer s1 HZ E scope f c') [] σ HZ { s1 with heap := h₁, toks := tk } := by
  have own : ∀ {y c}, (cloFrom X.env.cells scope.names []).lookup y = some c → X.env.cells.lookup y = some c := fun {y c} e => by
    rcases cloFrom_mem (PySem.mem_of_lookup e) with hm | ⟨h1, h2⟩
    · cases hm
    · obtain ⟨c1, hc⟩ := L.has I.ok _ h1 rfl
      have hc' : X.env.cells.lookup y = some c1 := hc
      have : c = c1 := by rw [h2, hc'] <;> rfl
      rw [this]
      exact hc'
  have there : ∀ {y}, scope.names.lookup y = some .free → ∃ c, (cloFrom X.env.cells scope.names []).lookup y = some c := fun {y} e => mem_lookup (cloFrom_has (cells := X.env.cells) (acc := []) (show (y, NameKind.free) ∈ scope.names from PySem.mem_of_lookup e))
  have isCell : ∀ {c : Addr} {v : Option Value}, H c = none → s.heap.IsCell c v → h₁.IsCell c v := fun {c v} n ⟨o, ho, hd⟩ => by
    obtain ⟨sl, q⟩ := un.any ho n (by simp)
    exact ⟨_, kp _ _ q, hd⟩
  have none_ : ∀ b : Addr, b ∉ (lamCx X A outer s1 HZ E scope f c').ex := fun b z => nomatch (show b ∈ ([] : List Addr) from z)
  have ok : (lamCx X A outer s1 HZ E scope f c').Ok := {
    mod := e0.mod, kind := L.kind, glob := rfl, blt := rfl, above := Nat.le_refl _, inj := fun y z c e1 e2 => I.ok.inj y z c (own e1) (own e2)
    has := fun y hy => by
      have hy : scope.names.lookup y = some .cell ∨ scope.names.lookup y = some .free := hy
      rcases hy with hy | hy
      · exact absurd rfl (L.own _ (PySem.mem_of_lookup hy)).1
      · exact there hy
    cab := fun y c z _ => nomatch (show false = true from z)
    hd := fun _ => hd, frames := Around.frames_deeper e0.frames, stk := .inr ⟨rfl, rfl⟩, exf := fun b z => absurd z (none_ b), bs := e0.bs, bsz := e0.bsz, noex := fun b _ _ => none_ b, exfs := fun b z => absurd z (none_ b), funs := e0.funs, frf := e0.frf }
  refine ⟨ok, rfl, e0.bare, Un.kept kp, ⟨m₁, hns, fun i y v e1 e2 e3 => ?_⟩, fun y c e => ?_, e0.hok.fresh (Nat.le_refl _), fun y c e => ?_, fun q hq => absurd (show q ∈ ([] ++ [] : List (Addr × Obj)) from hq) (by simp), e0.hok.kept kp, I.len⟩
  · have e3 : Vis scope y := e3
    have inN : y ∈ X.N := List.mem_of_getElem? e1
    rcases e3 with k | k | k
    · exact absurd inN ((L.own _ (PySem.mem_of_lookup k)).2 rfl)
    · exact absurd rfl (L.own _ (PySem.mem_of_lookup k)).1
    · obtain ⟨m, hn, hl⟩ := I.loc
      have fr := L.free _ (PySem.mem_of_lookup k) rfl
      obtain ⟨u, r, q⟩ := hl i y v e1 e2 (fr.elim (fun k => .inr (.inl k)) (fun k => .inr (.inr k)))
      obtain ⟨c2, h2⟩ := there k
      refine ⟨u, r, .inr ⟨.inr k, c2, h2, ?_⟩⟩
      rcases q with ⟨k', _⟩ | ⟨_, c3, e', z⟩
      · have k' : X.env.scope.names.lookup y = some .local := k'
        rcases fr with k2 | k2 <;> rw [show X.env.scope.names.lookup y = _ from k2] at k' <;> cases k'
      · have c1 := own h2
        rw [c1] at e'
        cases e'
        exact isCell (I.freeC y _ c1) z
  · obtain ⟨v, z⟩ := I.cell y c (own e)
    exact ⟨v, isCell (I.freeC y c (own e)) z⟩
  · obtain ⟨v, o, ho, hd⟩ := I.cell y c (own e)
    exact un.free c o ho (I.freeC y c (own e)) (by simp)
/-- a(), in the def that got the lambda: that def was entered at s -/
theorem act3 {CXg : CXT} {Eg : XK} {Ng : List Str} {qg : Str} {sg : Scope} {g f c' : Addr} {cdg dV doc pm ctv : Value} {params : Arguments} {body : Expr} {scope : Scope} {k i : Nat} {a : Str} {pn : List (Addr × Obj)} {xe : Value → Shared → Prop} {V : WX} {E : L2.St → XK} {tb : XK → TE} {binds : List (Str × Value)} {p1 p2 : Pos}
    (I : Inv X pins σ H s) (L : LamG X.N X.env.scope scope) (hf : s.heap.get? f = some (lamO (X.env.qual ++ "<lambda>") params body scope (cloFrom X.env.cells scope.names []) dV doc pm c' ctv)) (hfn : H f = none) (hfr : f ∉ frs X.stack)
    (hbind : ∀ s1 : Shared, (∀ b o, s.heap.get? b = some o → H b = none → b ∉ frs X.stack → s1.heap.get? b = some o) → BindsTo s1 (PySem.W.kdv_fn "<lambda>" (X.env.qual ++ "<lambda>") params (.expr body) scope (cloFrom X.env.cells scope.names []) dV doc pm (.ref c') ctv) ⟨[], []⟩ binds)
    (hloc : ∀ y ∈ binds, scope.names.lookup y.1 = some .local) (tk : Takes ((cxOf CXg X.prog X.w X.K X.mg X.base Ng qg sg g cdg X.A X.stack s H Eg).tr pn xe) V) (hV : ∀ σZ cls d H', E σZ cls d H' → V cls d σZ H')
    (hr : RoomG (k + 1) (X.A.deeper (envOfC qg sg s.heap.objs.size g cdg)))
    (hbody : ∀ (A : Around) (outer : List Env) (s : Shared) (H : Hp) (E : XK), RoomG k (A.deeper (lamEnv X scope s.heap.objs.size f c')) → PE (lamCx X A outer s H E scope f c') body (tb E))
    (hN : Ng[i]? = some a) (hv : Vis sg a) (hd : (a == ("__debug__" : Str)) = false := by decide) (hcd : (a == ("__classdict__" : Str)) = false := by decide) :
    PE ((cxOf CXg X.prog X.w X.K X.mg X.base Ng qg sg g cdg X.A X.stack s H Eg).tr pn xe) (.Call (.Name a p1) [] [] p2)
      (fun σZ HZ Q => σZ[i]? = some (some (.ref f)) ∧ HZ c' = some (CodeO c' (X.env.qual ++ "<lambda>")) ∧ tb (E σZ) σ HZ Q) := by
  refine ⟨fun pinsZ sZ σZ HZ Q IZ ⟨hs, hc, ht⟩ => wpAny_Call_Name_kw (thn ((pe_var (pos := p1) (i := i) hN hv hd hcd).run pinsZ sZ σZ HZ (fun v H1 => v = .ref f ∧ H1 = HZ) IZ ⟨.ref f, hs, rfl, rfl⟩) fun u s1 ⟨v, H1, I1, r1, ev, eH⟩ => ?_)⟩
  subst ev eH
  obtain rfl : u = Value.ref f := r1
  have un : Un (frs X.stack) [] H H1 s.heap s1.heap := I1.base
  have old : ∀ b o, s.heap.get? b = some o → H b = none → b ∉ frs X.stack → s1.heap.get? b = some o := fun b o e n m => un.keep b o e n m (by simp)
  have of1 := old f _ hf hfn hfr
  refine PySem.W.callWith_F0 ⟨_, _, _, _, of1⟩ ?_
  obtain ⟨⟨oc, vs, t, hoc, hdc, hvc⟩, _, _⟩ := I1.hok c' _ hc
  have run : codeAny (model X.prog X.w) (X.A.deeper (envOfC qg sg s.heap.objs.size g cdg)) (.call (.ref f) ⟨[], []⟩) (CR (L2.CX X.prog X.w) (envOfC qg sg s.heap.objs.size g cdg :: X.stack) X.prog X.w H1 s1 Q (E σZ)) s1 := by
    refine PySem.W.kla_callFunE hr.depth of1 rfl L.co L.gen rfl ⟨c', oc, vs, t, rfl, hoc, hdc, hvc⟩ (hbind s1 old _ _ _ _ ?_)
    refine wpAny_newFunctionEnv (fun y hy => (L.own y hy).1) hloc (fun h₁ hns hsb => ⟨I1.nolimit.fresh _ hsb, ?_⟩) L.kind
    show codeAny _ _ (.expr body (lamEnv X scope s1.heap.objs.size f c')) _ _
    have J := start3 (A := X.A.deeper (envOfC qg sg s.heap.objs.size g cdg)) (outer := envOfC qg sg s.heap.objs.size g cdg :: X.stack) (E := E σZ) (f := f) (c' := c') (tk := s1.toks + binds.length) I L I1.env0 hr.hd un hns
      fun b o e => hsb.extBut b o (Nat.ne_of_lt (Heap.lt_size e)) (Heap.get?_push_of_some _ e)
    refine PySem.W.kla_codeExpr (wpAny_mono ((hbody _ _ s1 H1 (E σZ) (hr.deeper _)).run [] _ _ H1 Q J ht) (fun v s' hq => ?_) fun _ _ hq => hq)
    obtain ⟨w', H', J', rv, q⟩ := hq
    exact ⟨w', H', J'.os, J'.bare, J'.base, J'.hok, rv, q⟩
  refine wpAny_call (codeAny_mono run fun r s' hq => ?_)
  cases r with
  | error e => exact tk e s' (XE.of_call (W := V) (E := E σZ) I1 (fun cls d H' z => hV σZ cls d H' z) hq)
  | ok fl => cases fl <;> first | exact I1.after hq | exact False.elim hq
end
/-- a def called, its body told of the very state -/
theorem runS {CX : CXT} {P : Program} {w : World} {K : PySem.W.Frag} {mg : Str → Option Value} {base : Heap} {k : Nat} {f : Addr} {name qual : Str} {params : Arguments} {body : List Stmt} {scope : Scope} {dV kV doc pm cdv ct oc : Value} {an od : Option Addr}
    {osl : Array (Option Value)} {N ps : List Str} (lk : K.lookup f = some ⟨oc, od, .func (PySem.W.fnOf name qual params body scope dV kV doc pm an cdv ct), osl⟩) (hcd : PySem.W.codeIn K cdv qual = true) (S : FnScope N ps scope)
    {A : Around} {outer : List Env} {s : Shared} {H : Hp} {args : Args} {us : List Value} {vs : List V} {Q : VK} {E : XK} (hr : RoomG (k + 1) A) (e0 : Env0 P w K mg base A outer s H) (hb : BindsTo s (PySem.W.fnOf name qual params body scope dV kV doc pm an cdv ct) args (ps.zip us)) (r : Vals vs us) (hl : vs.length = ps.length)
    (hbody : RoomG k (A.deeper (envOfC qual scope s.heap.objs.size f cdv)) → ∃ t, PSs (cxOf CX P w K mg base N qual scope f cdv A outer s H E) body t ∧ t { nx := fun _ H' => Q .non H', rt := Q } (L2.start N vs) H) :
    codeAny (model P w) A (.call (.ref f) args) (CR CX outer P w H s Q E) s := by
  have kept : ∀ b o, base.get? b = some o → s.heap.get? b = some o := fun b o e => (e0.bs b o e).1
  refine codeAny_call_function hr.toRoom.depth (e0.mod.kin.keeps kept _ _ lk) rfl S.co S.gen rfl (PySem.W.codeRec_of (e0.mod.kin.keeps kept) hcd) (hb _ _ _ _ ?_)
  refine wpAny_newFunctionEnv_cells S.kind (fun ⟨n, v⟩ hy => ?_) fun env he s1 x => ?_
  · exact (S.par n (List.of_mem_zip hy).1).elim .inl fun q => .inr ⟨q, PySem.W.cellsFrom_some _ _ _ (.inl q)⟩
  subst he
  refine ⟨(e0.mod.nolimit.keeps kept).keeps x.toInCall.keep, codeAny_func ?_⟩
  obtain ⟨t, ht, hq⟩ := hbody (hr.deeper _)
  refine wpAny_mono (ht.run [] s1 (L2.start N vs) H _ (inv_start S hr.hd e0 hl r x) hq) (fun fl s' hs => ?_) fun e s' hs => hs
  cases fl with
  | brk => exact False.elim hs.choose_spec.choose_spec.2
  | cont => exact False.elim hs.choose_spec.choose_spec.2
  | next =>
    obtain ⟨σ', H', J, q⟩ := hs
    exact ⟨.non, H', J.os, J.bare, J.base, J.hok, rfl, q⟩
  | ret u =>
    obtain ⟨v, σ', H', J, rv, q⟩ := hs
    exact ⟨v, H', J.os, J.bare, J.base, J.hok, rv, q⟩
end Lm

/-! A lambda handed to a def. -/
namespace FL
open PySem PySem.Spec PyProof.Rows L2 Gd Fx Stp LamX Lm
def forget (δ : Sl) : Sl := δ.map fun s => match s with
  | some (S.own _) => none
  | some (S.v (.xc _)) => none
  | some (S.v .fn) => none
  | some (S.v (.al _)) => none
  | s => s
theorem forget_at {δ : Sl} {i : Nat} {s : S} (h : (forget δ)[i]? = some (some s)) : δ[i]? = some (some s) ∧ ∃ w, s = S.v w ∧ (∀ x, w ≠ .xc x) ∧ w ≠ .fn ∧ ∀ k, w ≠ .al k := by
  unfold forget at h
  rw [List.getElem?_map] at h
  cases e : δ[i]? with
  | none =>
    rw [e] at h
    cases h
  | some o =>
    rw [e] at h
    cases o with
    | none => cases h
    | some t =>
      cases t with
      | v w =>
        cases w with
        | xc x => cases h
        | fn => cases h
        | al k => cases h
        | d x =>
          cases h
          exact ⟨rfl, _, rfl, (fun x z => by cases z), (fun z => by cases z), fun k z => by cases z⟩
        | ln x =>
          cases h
          exact ⟨rfl, _, rfl, (fun x z => by cases z), (fun z => by cases z), fun k z => by cases z⟩
        | wl =>
          cases h
          exact ⟨rfl, _, rfl, (fun x z => by cases z), (fun z => by cases z), fun k z => by cases z⟩
      | own x => cases h
section
variable {F : Fc} {M Mg : List Addr} {σ σg : L2.St} {H H1 HZ H' : Hp} {δ δg : Sl} {n m m' : Nat}
/-- the lambda's own frame: the slots of its maker, at the heap from which it is called -/
theorem Ok.lam {z : Option Addr} (h : Ok F M σ H1 δ n) (g : Ok { FL.sub F M H1 with fn := z } Mg σg HZ δg m) : Ok (FL.sub F Mg HZ) Mg σ HZ (forget δ) m where
  len := by
    unfold forget
    rw [List.length_map]
    exact h.len
  val := fun i w e => by
    obtain ⟨e1, w', ew, e3, e4, e5⟩ := forget_at e
    cases ew
    obtain ⟨v, h1, h2⟩ := h.val i w e1
    have k : Same (hid M H1) (hid Mg HZ) := fun b o z => by
      obtain ⟨b1, b2⟩ := hid_some z
      refine hid_mk (fun q => ?_) (hid_some (g.ext b o z)).2
      rcases g.new b q with q | q
      · exact b1 q
      · have q' : H1 b = none := q
        rw [q'] at b2
        cases b2
    refine ⟨v, h1, ?_⟩
    cases w with
    | d x => exact DV.same k h2
    | ln x => exact absurd e1 (h.nol i x)
    | wl => exact h2
    | fn => exact absurd rfl e4
    | al k => exact absurd rfl (e5 k)
    | xc x => exact absurd rfl (e3 x)
  own := fun i x e => by
    obtain ⟨_, w, ew, _⟩ := forget_at e
    cases ew
  dis := fun i j x y p e1 e2 => by
    obtain ⟨_, w, ew, _⟩ := forget_at e1
    cases ew
  nol := fun i x e => h.nol i x (forget_at e).1
  sub := fun p hp => hp
  new := fun p hp => .inl hp
  al := g.al
  ext := Same.refl _
  frm := fun p _ _ o _ e => e
  tab := ⟨g.tab.1, fun p hp => g.sub _ (g.tab.2 p hp)⟩
  wel := fun p e => ⟨g.sub _ (g.wel p e).1, (g.wel p e).2⟩
  anc := fun A hA => by cases hA
  sw := fun q e => by cases e
/-- a table is written -/
theorem Ok.tbl {P : Addr} (h : Ok F M σ H δ n) (hP : P ∈ F.M0) (hT : ∃ ps, H P = some (HO.tbl ps)) (st : ∀ b o, b ≠ P → H b = some o → H1 b = some o) (ht : LamX.Tabs F.tb H1) (ha : ∃ o, H1 P = some o) : Kp F M H H1 ∧ Ok F M σ H1 δ n := by
  obtain ⟨ps, hT⟩ := hT
  have nt : ∀ {p o}, (∀ ps, o ≠ HO.tbl ps) → H p = some o → p ≠ P := fun {p o} ho e z => by
    rw [z, hT] at e
    exact ho ps (Option.some.inj e).symm
  have k : Kp F M H H1 := ⟨fun b o e => by
    obtain ⟨b1, b2⟩ := hid_some e
    exact hid_mk b1 (st b o (fun z => b1 (by rw [z]; exact h.sub P hP)) b2), fun p hp _ o ho e => st p o (nt ho e) e⟩
  refine ⟨k, h.back k ht (fun p hp => ?_) fun p e => ?_⟩
  · by_cases z : p = P
    · rw [z]
      exact ha
    · obtain ⟨o, e⟩ := h.al p hp
      exact ⟨o, st p o z e⟩
  · obtain ⟨_, h1, h2, t, r, h3, h4⟩ := h.wel p e
    exact ⟨h1, k.s _ _ h2, t, r, st _ _ (nt (fun _ z => by cases z) h3) h3, h4⟩
end
/-- asking what was handed in -/
def fAsk (l : R D) : FE := fun (δ : Sl) => match δ[0]? with
  | some (some (S.v W.fn)) => l.bind fun d => .ret (.d d)
  | _ => .bad
/-- what a def makes of the lambda that it got: b is its body as a function of what is asked -/
def GvF (P : Program) (w : World) (K : Kx) (mg : Str → Option Value) (base : Heap) (k : Nat) (x : Str) (Ng : List Str) (sg : Scope) (bg : List Stmt) (a : Str) (b : R D → FS) : Prop :=
  ∀ (cdv : Value) (A : Around) (outer : List Env) (s : Shared) (H : Hp) (g : Addr) (F : Fc) (l : R D), F.K = K → RoomG k (A.deeper (envOfC x sg s.heap.objs.size g cdv)) →
    (∀ (pn : List (Addr × Obj)) (xe : Value → Shared → Prop) (p1 p2 : Pos), PF ((cxOf CX0 P w K.K mg base Ng x sg g cdv A outer s H (fun _ _ _ => False)).tr pn xe) F (.Call (.Name a p1) [] [] p2) (fAsk l)) →
    PFB (cxOf CX0 P w K.K mg base Ng x sg g cdv A outer s H (fun _ _ _ => False)).nox F bg (b l)
def fLam (fl : FE) (L : Nat) (b : R D → FS) : FE := fun δ => (((b ((fl (forget δ)).bind W.dat) (startL L [.fn])).noex : R Out).bind fin).bind fun d => .ret (.d d)
/-- the lambda is made, whatever its form -/
def Made (X : Cx) (T : List (Addr × Str)) (P : Addr) (params : Arguments) (body : Expr) (scope : Scope) (lpos : Pos) : Prop :=
  ∀ (pins : List (Addr × Obj)) (σ : L2.St) (H : Hp) (s : Shared) (E Q : Value → Shared → Prop), Inv X pins σ H s → Tabs T H →
    (∀ (f c' : Addr) (dV doc pm ctv : Value) (binds : List (Str × Value)) (H1 : Hp) (s' : Shared), Inv X pins σ H1 s' → (∀ b o, b ≠ P → H b = some o → H1 b = some o) → Tabs T H1 →
      s'.heap.get? f = some (lamO (X.env.qual ++ "<lambda>") params body scope (cloFrom X.env.cells scope.names []) dV doc pm c' ctv) → H1 f = none → f ∉ frs X.stack → H1 c' = some (CodeO c' (X.env.qual ++ "<lambda>")) →
      (∀ s1 : Shared, (∀ b o, s'.heap.get? b = some o → H1 b = none → b ∉ frs X.stack → s1.heap.get? b = some o) → BindsTo s1 (PySem.W.kdv_fn "<lambda>" (X.env.qual ++ "<lambda>") params (.expr body) scope (cloFrom X.env.cells scope.names []) dV doc pm (.ref c') ctv) ⟨[], []⟩ binds) →
      (∀ y ∈ binds, scope.names.lookup y.1 = some .local) → Q (.ref f) s') →
    wpAny (model X.prog X.w) X.A (eval (.Lambda params body scope lpos) X.env) Q E s
section
variable {X : Cx} {T : List (Addr × Str)} {c P : Addr} {params : Arguments} {body : Expr} {scope : Scope} {lpos : Pos}
theorem made0 (TB : TabB X.base X.mg c P) (hcode : X.env.code = .ref c) (hm : (P, X.env.qual ++ "<lambda>") ∈ T) (hu : ∀ p ∈ T, p.1 = P → p.2 = X.env.qual ++ "<lambda>") (L : LamG X.N X.env.scope scope) (hdef : defaultsOf params X.env = ([], []))
    (hb : ∀ (q : Str) (cl : List (Str × Addr)) (doc pm cv ctv : Value), bindArgs (PySem.W.kdv_fn "<lambda>" q params (.expr body) scope cl .none doc pm cv ctv) ⟨[], []⟩ = pure []) : Made X T P params body scope lpos := by
  intro pins σ H s E Q I hT h
  refine PySem.W.kla_eval hdef ?_
  rw [makeFunction_eq]
  simp only [List.zip_nil_right, List.filterMap_nil, List.isEmpty_nil, if_true, pure_bind]
  exact tail3 I TB hcode hm hu hT (L.has I.ok) fun f c' doc pm ctv H1 s' I1 st T1 old hf hfn hfr hco => h f c' .none doc pm ctv [] H1 s' I1 st T1 hf hfn hfr hco (fun s1 _ => .of_eq (hb _ _ _ _ _ _)) fun y hy => by cases hy
theorem made1 {i : Int} {j : Nat} {pp : Pos} {y : Str} (TB : TabB X.base X.mg c P) (hcode : X.env.code = .ref c) (hm : (P, X.env.qual ++ "<lambda>") ∈ T) (hu : ∀ p ∈ T, p.1 = P → p.2 = X.env.qual ++ "<lambda>") (L : LamG X.N X.env.scope scope)
    (hd : params.defaults = [.Constant (.int i) j pp]) (hk : params.kw_defaults = []) (hy : scope.names.lookup y = some .local)
    (hb : ∀ (T0 : Addr) (q : Str) (cl : List (Str × Addr)) (doc pm cv ctv v : Value), ∃ k, bindArgs (PySem.W.kdv_fn "<lambda>" q params (.expr body) scope cl (.ref T0) doc pm cv ctv) ⟨[], []⟩ = seqItems? (.ref T0) >>= k ∧ k (some #[v]) = pure [(y, v)]) : Made X T P params body scope lpos := by
  intro pins σ H s E Q I hT h
  refine PySem.W.kdv_lam (by rw [hd]; rfl) hk ?_
  rw [hd]
  refine PySem.W.kdv_all1 (thn ((pe_int (X := X) (i := i) (j := j) (pos := pp)).run pins s σ H (fun v H1 => v = .int i ∧ H1 = H) I ⟨rfl, rfl⟩) fun u s1 ⟨v, H1, I1, r1, ev, eH⟩ => PySem.W.kdv_all0 ?_)
  subst eH
  rw [makeFunction_eq]
  simp only [List.zip_nil_right, List.filterMap_nil, List.isEmpty_nil, if_true, pure_bind, List.isEmpty_cons, Bool.false_eq_true, if_false]
  refine wpAny_bind (wpAny_newTextTuple ?_)
  have I2 : Inv X pins σ H1 { s1 with heap := s1.heap.push { cls := .type "tuple", data := .seq [u].toArray } } := I1.kept (t' := s1.toks) fun b o e => Heap.get?_push_of_some _ e
  have hT0 : H1 s1.heap.objs.size = none := I1.hok.fresh (Nat.le_refl _)
  have hget : (s1.heap.push { cls := .type "tuple", data := .seq [u].toArray }).get? s1.heap.objs.size = some { cls := .type "tuple", data := .seq [u].toArray } := Heap.get?_push_size _ rfl
  have nfr : s1.heap.objs.size ∉ frs X.stack := fun z => (List.mem_cons.mp (I1.stkSub _ z)).elim (fun e => Nat.lt_irrefl _ (by have := I1.lt; rw [← e] at this; exact this)) (I1.nofs (Nat.le_refl _))
  refine tail3 I2 TB hcode hm hu hT (L.has I.ok) fun f c' doc pm ctv H2 s' J st T1 old hf hfn hfr hco => ?_
  obtain ⟨o1, o2⟩ := old _ _ hget hT0
  refine h f c' (.ref s1.heap.objs.size) doc pm ctv [(y, u)] H2 s' J st T1 hf hfn hfr hco (fun s3 keep => ?_) (fun z hz => ?_)
  · obtain ⟨k, e1, e2⟩ := hb s1.heap.objs.size (X.env.qual ++ "<lambda>") (cloFrom X.env.cells scope.names []) doc pm (.ref c') ctv u
    exact BindsTo.of_defaults rfl (keep _ _ o1 o2 nfr) rfl e1 e2
  · rw [List.mem_singleton.mp hz]
    exact hy
end
section
variable {X : Cx} {F : Fc} {x a : Str} {g c P : Addr} {k L : Nat} {pg : Arguments} {bg : List Stmt} {sg : Scope} {dV kV doc pm cdv ct oc : Value} {an od : Option Addr} {osl : Array (Option Value)} {Ng : List Str} {params : Arguments} {body : Expr} {scope : Scope} {p lpos pos : Pos} {fl : FE} {b : R D → FS}
/-- x(lambda: body) -/
theorem pf_lam (hg : Gl X x) (hm : X.mg x = some (.ref g)) (hk : PySem.W.keepIn X.K (.ref g) = true) (lk : X.K.lookup g = some ⟨oc, od, .func (PySem.W.fnOf x x pg bg sg dV kV doc pm an cdv ct), osl⟩) (hcg : PySem.W.codeIn X.K cdv x = true)
    (hb : L2.Binds X.K (PySem.W.fnOf x x pg bg sg dV kV doc pm an cdv ct) [a] []) (Sg : FnScope Ng [a] sg) (hNg : Ng[0]? = some a) (hva : Vis sg a) (hG : GvF X.prog X.w F.K X.mg X.base (k + 1) x Ng sg bg a b)
    (hmade : Made X F.tb P params body scope lpos) (hmT : (P, X.env.qual ++ "<lambda>") ∈ F.tb) (hr : RoomG (k + 2) X.A) (Lg : LamG X.N X.env.scope scope)
    (hfl : ∀ (A : Around) (outer : List Env) (s : Shared) (H : Hp) (E : XK) (f c' : Addr) (F' : Fc), F'.K = F.K → F'.tb = F.tb → RoomG k (A.deeper (lamEnv X scope s.heap.objs.size f c')) → PF (lamCx X A outer s H E scope f c') F' body fl)
    (hK : X.K = F.K.K := by rfl)
    (hdb : (x == ("__debug__" : Str)) = false := by decide) (hd : (a == ("__debug__" : Str)) = false := by decide) (hcd : (a == ("__classdict__" : Str)) = false := by decide) :
    PF X F (.Call (.Name x p) [.Lambda params body scope lpos] [] pos) (fLam fl Ng.length b) := by
  refine ⟨fun Z tk => ⟨fun pins s σ H Q I ⟨M, δ, n, ok, q⟩ => wpAny_Call_Name_kw (ld_glob I hg hm ?_ hdb)⟩⟩
  have q1 := (T.wp_noex _ _).mp ((T.wp_bind _ _).mp ((T.wp_bind _ _).mp q))
  refine PySem.W.callWith_K (h₀ := X.base) I.ok.mod.kin hk ?_ (by rfl) (by rfl)
  show wpAny _ _ (spliced ((false, eval (.Lambda params body scope lpos) X.env) :: backTo pos (starEach [] X.env))) _ _ s
  refine Calls.spliced_cons (hmade pins σ H s _ _ I ok.tab.1 fun f c' dV' doc' pm' ctv binds H1 s1 I1 st T1 hf hfn hfr hco hbi hlo => Calls.spliced_nil ⟨I1.kIn, ?_⟩)
  obtain ⟨tps, tP, _⟩ := ok.tab.1 _ hmT
  obtain ⟨tps1, tP1, _⟩ := T1 _ hmT
  obtain ⟨k1, ok1⟩ := ok.tbl (ok.tab.2 _ hmT) ⟨tps, tP⟩ st T1 ⟨_, tP1⟩
  let Fg : Fc := { FL.sub F M H1 with fn := some f }
  have run : codeAny (model X.prog X.w) X.A (.call (.ref g) ⟨[.ref f], []⟩) (CR CX0 X.stack X.prog X.w H1 s1 Q (fun _ _ _ => False)) s1 := by
    refine runS (N := Ng) (ps := [a]) (us := [.ref f]) (vs := [.ref f]) lk hcg Sg hr I1.env0 (hb s1 [.ref f] I1.kIn rfl) (.cons rfl .nil) rfl fun hr' => ?_
    have act : ∀ (pn : List (Addr × Obj)) (xe : Value → Shared → Prop) (p1 p2 : Pos),
        PF ((cxOf CX0 X.prog X.w F.K.K X.mg X.base Ng x sg g cdv X.A X.stack s1 H1 (fun _ _ _ => False)).tr pn xe) Fg (.Call (.Name a p1) [] [] p2) (fAsk ((fl (forget δ)).bind W.dat)) := fun pn xe p1 p2 => by
      rw [← hK]
      refine ⟨fun Z tk => pe_to (act3 (i := 0) (V := WZ Fg Z) (E := fun σZ cls d H' => WZ Fg Z cls d σZ H')
          (tb := fun E σ' HZ Q' => ∃ Mg Zl, (∀ cls d σ'' H'', WZ (FL.sub F Mg HZ) Zl cls d σ'' H'' → E cls d H'') ∧ tE (FL.sub F Mg HZ) Zl fl σ' HZ Q')
          I1 Lg hf hfn hfr hbi hlo tk (fun _ _ _ _ z => z) hr' (fun A outer s H E hr2 => ⟨fun pins' s' σ' H' Q' I' ⟨Mg, Zl, hE, q'⟩ => ?_⟩) hNg hva hd hcd) fun σZ HZ Q' ⟨Mg, δg, ng, okg, hl⟩ => ?_⟩
      · have tk' : Lk (lamCx X A outer s H E scope f c') (FL.sub F Mg H') Zl :=
          Takes.imp (L2.takes_of (X := lamCx X A outer s H E scope f c') rfl rfl rfl rfl) fun cls d σ'' H'' z => hE cls d σ'' H'' z
        exact ((hfl A outer s H E f c' (FL.sub F Mg H') rfl rfl hr2).pe _ tk').run pins' s' σ' H' Q' I' q'
      · unfold fAsk at hl
        split at hl
        · rename_i hs
          obtain ⟨v0, e0, f', e1, e2⟩ := okg.val 0 _ hs
          cases e1
          subst e2
          refine ⟨e0, ?_, Mg, fun x m _ => Z x m δg, fun cls d σ'' H'' ⟨M2, δ2, n2, xn, ok2, hx, hz2⟩ => ?_, Mg, forget δ, ng, Ok.lam (z := some f) ok1 okg, ?_⟩
          · by_cases hcM : c' ∈ M
            · exact okg.frm c' hcM (fun z => by
                rcases z with ⟨q, e, z⟩ | ⟨q, e, _⟩
                · obtain ⟨_, _, _, t, r, h4, _⟩ := ok1.wel q e
                  rw [← z, hco] at h4
                  have := Option.some.inj h4
                  cases this
                · cases e) _ codeO_ne hco
            · exact (hid_some (okg.ext c' _ (hid_mk hcM hco))).2
          · obtain ⟨h1, h2⟩ := okg.retS (F := Fg) (show RetB (FL.sub Fg Mg HZ) H'' n2 from ok2.retB)
            exact ⟨Mg, δg, n2, xn, h2, hx.same (hid_sub ok2.sub), hz2⟩
          · refine T.wp_mono (fun w n' qq v H' kp okr vr => ?_) (fun _ _ z => z) _ _ ((T.wp_bind _ _).mp ((T.wp_bind _ _).mp hl))
            obtain ⟨d, rfl, hv, qq'⟩ := dv_dat vr qq
            have r := okr.ret hv
            obtain ⟨h1, h2⟩ := okg.retS (F := Fg) (show RetB (FL.sub Fg Mg HZ) H' n' from r.toRetB)
            exact qq' v H' h1 h2 r.val
        · exact hl.elim
    have hbd := hG cdv X.A X.stack s1 H1 g Fg ((fl (forget δ)).bind W.dat) rfl (by rw [← hK] at *; exact hr') act
    rw [← hK] at hbd
    refine ⟨_, (hbd.ps (fun _ _ _ => False) lk0).nox, ?_⟩
    have en : Ent Fg n [.ref f] [.fn] := ⟨.cons ⟨f, rfl, rfl⟩ .nil, rfl, ok1.al, fun p e => ⟨ok1.sub _ (ok1.wel p e).1, (ok1.wel p e).2⟩, rfl, rfl, rfl, ok1.tab.1, fun p hp => ok1.sub _ (ok1.tab.2 p hp)⟩
    refine ⟨M, _, n, en.start (N := Ng), T.wp_mono (fun o n1 q2 => ?_) (fun _ _ z => z) _ _ q1⟩
    have rs : ∀ {H2 : Hp} {n1 : Nat}, RetB Fg H2 n1 → RetB (FL.sub F M H1) H2 n1 := fun r => ⟨r.ext, r.frm, r.tab, r.al, r.wel⟩
    match o, q2 with
    | .nx δ1, q2 =>
      intro M1 σ1 H2 ok2
      obtain ⟨h1, h2⟩ := ok1.retS (rs ok2.retB)
      exact q2 .non H2 (k1.trans h1) h2 .non
    | .rt d, q2 =>
      intro v H2 r
      obtain ⟨h1, h2⟩ := ok1.retS (rs r.toRetB)
      exact q2 v H2 (k1.trans h1) h2 r.val
  refine wpAny_call (codeAny_mono run fun r s2 hq => ?_)
  cases r with
  | error e => exact (show False from hq).elim
  | ok fl => cases fl <;> first | exact I1.after hq | exact False.elim hq
end
end FL

/-! Draws; the law's frame; x.append(y.pop(e)). -/
namespace FL
open PySem PySem.Spec PyProof.Rows L2 Gd Fx Stp LamX Lm
def gDraw : FFn
  | [.wl, .d (.int m)] => .draw m fun v => .ret (.int v)
  | _ => .bad
theorem gDraw_wp {ws : List W} {n : Nat} {Q : D → Nat → Prop} {Z : Xn → Nat → Prop} (h : (gDraw ws).wp n Q Z) : ∃ m : Int, ws = [.wl, .d (.int m)] ∧ m < 1073741824 ∧ n ≤ 1048576 ∧ ∀ v : Int, 0 ≤ v → (v = 0 ∨ v < m) → Q (.int v) (n + 1) := by
  match ws, h with
  | [.wl, .d (.int m)], h => exact ⟨m, rfl, h⟩
/-- a promise without exceptions is one with -/
theorem fnG0 {P : Program} {w : World} {K : PySem.W.Frag} {mg : Str → Option Value} {base : Heap} {k : Nat} {f : Addr} {fd : FuncData} {ps : List Str} {sp : Sp} (FG : FnOk P w K mg base CX0 k f fd ps sp) : FnG P w K mg base (L2.CX P w) k f fd ps sp :=
  ⟨FG.len, fun A outer s H args us vs Q E hr e0 hb r h => codeAny_mono (FG.run A outer s H args us vs Q E hr.toRoom e0 hb r h) fun r s' hq => by
    cases r with
    | error e => exact False.elim hq
    | ok fl => cases fl <;> exact hq⟩
theorem FnG.imp {P : Program} {w : World} {K : PySem.W.Frag} {mg : Str → Option Value} {base : Heap} {k : Nat} {f : Addr} {fd : FuncData} {ps : List Str} {CX : CXT} {sp sp' : Sp} (FG : FnG P w K mg base CX k f fd ps sp) (h : ∀ vs H Q E, sp' vs H Q E → sp vs H Q E) : FnG P w K mg base CX k f fd ps sp' :=
  ⟨fun vs H Q E q => FG.len _ _ _ _ (h _ _ _ _ q), fun A outer s H args us vs Q E hr e0 hb r q => FG.run A outer s H args us vs Q E hr e0 hb r (h _ _ _ _ q)⟩
/-! ### x.append(y.pop(e)) -/
def sAppPop (i j : Nat) (f : FE) : FS := fun δ => if i = j then .bad else (lft δ (listAt δ i)).bind fun xs => (lft δ (listAt δ j)).bind fun ys => (lft δ (f δ)).bind fun w => (lft δ w.rd).bind fun d => (lft δ (T.of (intOf d))).bind fun k =>
  if 0 ≤ k ∧ xs.length < 1000000 ∧ ys.length ≤ 1000000 then (lft δ (T.of ys[k.toNat]?)).bind fun y => .ret (.nx ((δ.set j (some (S.own (.list (ys.eraseIdx k.toNat))))).set i (some (S.own (.list (xs ++ [y])))))) else .bad
theorem DVs.erase {K : Kx} {G : Hp} : ∀ {vs : List V} {ds : List D} (j : Nat), DVs K G vs ds → DVs K G (vs.eraseIdx j) (ds.eraseIdx j)
  | _, _, _, .nil => .nil
  | _, _, 0, .cons _ t => t
  | _, _, j + 1, .cons h t => .cons h (DVs.erase j t)
section
variable {X : Cx} {F : Fc} {e : Expr} {f : FE} {i j : Nat} {x y : Str} {pos : Pos}
theorem pfs_apppop {np np2 apos apos2 cpos cpos2 : Pos} (hv : PE X (.Name x np) (tVar i)) (hv2 : PE X (.Name y np2) (tVar j)) (ha : PF X F e f) (hK : X.K = F.K.K := by rfl)
    (hbase : attributeBase (.Name x np) "append" X.env (eval (.Name x np) X.env) = eval (.Name x np) X.env := by rfl)
    (hfew : ((backTo cpos (starEach [.Call (.Attribute (.Name y np2) "pop" apos2) [e] [] cpos2] X.env)).all (fun x => !x.1) && (backToKw cpos (keywordEach [] X.env)).all (fun x => x.1.isSome) && decide (([.Call (.Attribute (.Name y np2) "pop" apos2) [e] [] cpos2] : List Expr).length + ([] : List Keyword).length + (if ([] : List Keyword).isEmpty then 0 else 1) < 30)) = true := by rfl)
    (hline : (apos.endLine == cpos.line) = true := by rfl) (hs : starEach [.Call (.Attribute (.Name y np2) "pop" apos2) [e] [] cpos2] X.env = (false, eval (.Call (.Attribute (.Name y np2) "pop" apos2) [e] [] cpos2) X.env) :: starEach [] X.env := by rfl) (hplain : (backTo cpos (starEach [] X.env)).any (·.1) = false := by rfl)
    (hbase2 : attributeBase (.Name y np2) "pop" X.env (eval (.Name y np2) X.env) = eval (.Name y np2) X.env := by rfl)
    (hfew2 : ((backTo cpos2 (starEach [e] X.env)).all (fun x => !x.1) && (backToKw cpos2 (keywordEach [] X.env)).all (fun x => x.1.isSome) && decide (([e] : List Expr).length + ([] : List Keyword).length + (if ([] : List Keyword).isEmpty then 0 else 1) < 30)) = true := by rfl)
    (hline2 : (apos2.endLine == cpos2.line) = true := by rfl) (hs2 : starEach [e] X.env = (false, eval e X.env) :: starEach [] X.env := by rfl) (hplain2 : (backTo cpos2 (starEach [] X.env)).any (·.1) = false := by rfl)
    (hsw : swapsWith (.Call (.Attribute (.Name x np) "append" apos) [.Call (.Attribute (.Name y np2) "pop" apos2) [e] [] cpos2] [] cpos) none pos.line X.env = pure false := by rfl) :
    PFS X F (.Expr (.Call (.Attribute (.Name x np) "append" apos) [.Call (.Attribute (.Name y np2) "pop" apos2) [e] [] cpos2] [] cpos) pos) (sAppPop i j f) :=
  ⟨fun Z tk => ps_to (ps_expr (pe_bm PySem.F.plainAttrs_list PySem.F.slot_list_append PySem.F.type_list_append mt_append hv (pa_cons (pe_bm PySem.F.plainAttrs_list PySem.F.slot_list_pop PySem.F.type_list_pop mt_popAt hv2 (pa_cons (ha.pe Z tk) pa_nil hs2) hbase2 hfew2 hline2 hs2 hplain2) pa_nil hs) hbase hfew hline hs hplain) hsw) fun Dd σ H ⟨M, δ, n, ok, q⟩ => by
    unfold sAppPop at q
    by_cases hij : i = j
    · rw [if_pos hij] at q
      exact q.elim
    rw [if_neg hij] at q
    obtain ⟨xs, ei, q1⟩ := listAt_wp ((T.wp_bind _ _).mp q)
    obtain ⟨ys, ej, q2⟩ := listAt_wp ((T.wp_bind _ _).mp q1)
    obtain ⟨p, vs, b1, b2, b3, b4, b5⟩ := own_list ok ei
    obtain ⟨r, us, c1, c2, c3, c4, c5⟩ := own_list ok ej
    have npr : p ≠ r := fun z => hij (ok.dis i j _ _ p ei ej b1 (by rw [z]; exact c1))
    refine ⟨_, b1, Or.inl ⟨rfl, vs, SqL.of b4⟩, _, c1, Or.inl ⟨rfl, us, SqL.of c4⟩, lftE ok ((T.wp_bind _ _).mp q2) fun w n1 v H1 q3 s1 ok1 v1 => ?_⟩
    obtain ⟨d, hd, q4⟩ := rv_rd v1 ((T.wp_mapEx _ _).mp ((T.wp_bind _ _).mp q3))
    obtain ⟨k, ek, q5⟩ := T.wp_of.mp ((T.wp_mapEx _ _).mp ((T.wp_bind _ _).mp q4))
    obtain ⟨⟨h0, hl, hl2⟩, q6⟩ := wp_if q5
    obtain ⟨yd, ey, q7⟩ := T.wp_of.mp ((T.wp_mapEx _ _).mp ((T.wp_bind _ _).mp q6))
    match d, hd, ek with
    | .int k, hd, rfl =>

    cases hd.int
    have c4' := s1.f r c2 c3 _ (fun _ z => by cases z) c4
    have b4' := s1.f p b2 b3 _ (fun _ z => by cases z) b4
    obtain ⟨yv, ev, hyv⟩ := (c5.same s1.s).at_ ey
    have hkl : k.toNat < ys.length := (List.getElem?_eq_some_iff.mp ey).1
    have hul : us.length = ys.length := c5.length
    refine ⟨r, us, _, k.toNat, yv, rfl, rfl, c4', by omega, by omega, ?_, ev, ?_⟩
    · unfold seqIndex?
      simp only [show ¬ (k < 0) by omega, if_false]
      rw [if_pos]
      simp only [Bool.and_eq_true, decide_eq_true_eq]
      omega
    have w1 := ok1.write ej c1 c4' (.lst (DVs.erase k.toNat (c5.same s1.s))) (fun _ _ _ z => by cases z) (rfl)
    have ei1 : (δ.set j (some (S.own (.list (ys.eraseIdx k.toNat)))))[i]? = some (some (.own (.list xs))) := by
      rw [List.getElem?_set_ne (fun z => hij z.symm)]
      exact ei
    have bp : upd H1 r (.lst (us.eraseIdx k.toNat)) p = some (.lst vs) := by
      rw [upd_ne npr]
      exact b4'
    have kk : hid M (upd H1 r (.lst (us.eraseIdx k.toNat))) = hid M H1 := hid_poke c2
    refine ⟨p, vs, yv, rfl, rfl, bp, by rw [b5.length]; exact Nat.lt_of_lt_of_le hl (by decide), ?_⟩
    refine q7 M σ _ (w1.write ei1 b1 bp (.lst ?_) (fun _ _ _ z => by cases z) rfl)
    rw [kk]
    exact (b5.same s1.s).append (.cons hyv .nil)⟩
end
/-! ### the law's own frame -/
def lawF (K : Kx) (tb : List (Addr × Str)) (p l : Addr) (ms : List Int) (H : Hp) : Fc := { K := K, M0 := p :: tb.map Prod.fst, H0 := H, wl := some (p, l, ms), tb := tb }
def lawD (L i : Nat) : Sl := (List.replicate L none).set i (some (S.v .wl))
theorem lawD_at {L i j : Nat} {s : S} (h : (lawD L i)[j]? = some (some s)) : i = j ∧ s = S.v .wl := by
  rcases set_cases h with ⟨rfl, e, _⟩ | ⟨_, e⟩
  · cases e
    exact ⟨rfl, rfl⟩
  · rw [List.getElem?_replicate] at e
    split at e <;> cases e
theorem law_start {K : Kx} {tb : List (Addr × Str)} {p l : Addr} {ms : List Int} {H : Hp} {σ : L2.St} {L i : Nat} (hσ : σ.length = L) (hi : σ[i]? = some (some (.ref p))) (T : Tabs tb H) (hp : p ≠ l) (h60 : ms.length ≤ 60) (h1 : H l = some (.lst (ms.map V.int))) (h2 : ∃ t r : Int, 0 ≤ t ∧ t ≤ ((0 : Nat) : Int) ∧ 0 ≤ r ∧ H p = some (.lst [.ref l, .int t, .int r])) : Ok (lawF K tb p l ms H) (p :: tb.map Prod.fst) σ H (lawD L i) 0 where
  len := by
    unfold lawD
    rw [List.length_set, List.length_replicate, hσ]
  val := fun j w e => by
    obtain ⟨rfl, ew⟩ := lawD_at e
    cases ew
    exact ⟨_, hi, _, rfl, rfl⟩
  own := fun j x e => by
    obtain ⟨_, ew⟩ := lawD_at e
    cases ew
  dis := fun i j x y p e1 e2 => by
    obtain ⟨_, ew⟩ := lawD_at e1
    cases ew
  nol := fun j x e => by
    obtain ⟨_, ew⟩ := lawD_at e
    cases ew
  sub := fun p hp => hp
  new := fun p hp => .inl hp
  al := fun q hq => by
    rcases List.mem_cons.mp hq with rfl | hq
    · obtain ⟨t, r, _, _, _, e⟩ := h2
      exact ⟨_, e⟩
    · obtain ⟨z, hz, rfl⟩ := List.mem_map.mp hq
      obtain ⟨ps, e, _⟩ := T z hz
      exact ⟨_, e⟩
  ext := Same.refl _
  frm := fun p _ _ o _ e => e
  tab := ⟨T, fun q hq => List.mem_cons_of_mem _ (List.mem_map.mpr ⟨q, hq, rfl⟩)⟩
  wel := fun q e => by
    cases e
    obtain ⟨t, r, t0, t1, r0, e⟩ := h2
    refine ⟨List.mem_cons_self .., h60, hid_mk (fun z => ?_) h1, t, r, e, t0, t1, r0⟩
    rcases List.mem_cons.mp z with z | z
    · exact hp z.symm
    · obtain ⟨y, hy, ey⟩ := List.mem_map.mp z
      obtain ⟨ps, e2, _⟩ := T y hy
      rw [ey, h1] at e2
      cases e2
  anc := fun A hA => by cases hA
  sw := fun q e => by cases e
end FL

/-! Bundles of facts: exceptions of one field; stars in displays; lambdas' takers; the law. -/
namespace FL
open PySem PySem.Spec PyProof.Rows L2 Gd Fx Stp LamX Lm
/-- an exception class of one field, raised -/
structure ExcF (P : Program) (w : World) (K : Kx) (mg : Str → Option Value) (base : Heap) (c : Nat) (x fld : Str) : Prop where
  g : mg x = some (.ref (K.ct c))
  ex : ∃ (Dc fI : Addr) (fd : FuncData) (ps : List Str), XC K.K (K.ct c) Dc fI ∧ PySem.W.findIn K.K (.ref (K.ct c)) fld = some none ∧ PySem.W.typeIn K.K (.ref fI) = some (.type "function") ∧ FnOk P w K.K mg base CX0 1 fI fd ps (spInit1 K.K Dc fI fld) ∧ L2.Binds K.K fd ps []
/-- .. caught -/
structure HdF (K : Kx) (c : Nat) (fld : Str) : Prop where
  xf : XfC K.K (K.ct c)
  no : PySem.W.findIn K.K (.ref (K.ct c)) fld = some none
section
variable {X : Cx} {F : Fc} {k c : Nat} {x fld : Str} {e : Expr} {f : FE} {p cpos pos : Pos}
theorem pfs_raise (hc : X.calm = true) (EX : ExcF X.prog X.w F.K X.mg X.base c x fld) (hr : RoomG k X.A) (hk : 2 ≤ k) (hg : Gl X x) (ha : PF X F e f) (hK : X.K = F.K.K := by rfl)
    (hdb : (x == ("__debug__" : Str)) = false := by decide) (he : starEach [e] X.env = (false, eval e X.env) :: starEach [] X.env := by rfl) (hpl : (backTo cpos (starEach [] X.env)).any (·.1) = false := by rfl) :
    PFS X F (.Raise (some (.Call (.Name x p) [e] [] cpos)) none pos) (sRaise1 c fld f) := by
  obtain ⟨Dc, fI, fd, ps, h1, h2, h3, h4, h5⟩ := EX.ex
  rw [← hK] at h1 h2 h3 h4 h5
  exact pfs_raise1 hc rfl h1 h2 h3 h4 (hr.toRoom.mono hk) h5 hg EX.g ha hK hdb he hpl
theorem pf_xfe {a : Addr} {oe : Obj} {cls : Value} {d : Option Addr} {pn : List (Addr × Obj)} {i : Nat} {np : Pos} (EX : HdF F.K c fld) (hz : Zc cls d oe) (hf : ∃ vs, oe.data = .fields vs)
    (hv : PE (X.suite a ((a, oe) :: pn)) (.Name x np) (tVar i)) (hK : X.K = F.K.K := by rfl) (hb : attributeBase (.Name x np) fld X.env (eval (.Name x np) X.env) = eval (.Name x np) X.env := by rfl) : PF (X.suite a ((a, oe) :: pn)) (F.xcd (some (a, cls, d))) (.Attribute (.Name x np) fld pos) (fXf i c fld) :=
  pf_xf rfl (by rw [hK]; exact EX.xf) (by rw [hK]; exact EX.no) hz hf hv hb
/-! ### stars -/
def fStar (f : FE) (g : FA) : FA := fun δ => (f δ).bind fun w => w.dat.bind fun x => (T.of (seqOf x)).bind fun xs => (g δ).bind fun ws => .ret (xs.map W.d ++ ws)
theorem VOks.ofData {M : List Addr} {H : Hp} : ∀ {vs : List V} {ds : List D}, DVs F.K (hid M H) vs ds → VOks F M H vs (ds.map W.d)
  | _, _, .nil => .nil
  | _, _, .cons h t => .cons h (ofData t)
theorem VOks.append {M : List Addr} {H : Hp} : ∀ {vs us : List V} {ws zs : List W}, VOks F M H vs ws → VOks F M H us zs → VOks F M H (vs ++ us) (ws ++ zs)
  | _, _, _, _, .nil, h => h
  | _, _, _, _, .cons h t, r => .cons h (t.append r)
theorem pfa_star {es : List Expr} {g : FA} (he : PF X F e f) (hr : PFA X F es g) (hK : X.K = F.K.K := by rfl) (hs : starEach (.Starred e p :: es) X.env = (true, eval e X.env) :: starEach es X.env := by rfl) : PFA X F (.Starred e p :: es) (fStar f g) :=
  ⟨fun Z tk => pa_to (StX.pa_star (he.pe Z tk) (hr.pa Z tk) hs) fun σ H Q ⟨M, δ, n, ok, q⟩ => goE ok ((T.wp_bind _ _).mp q) fun w n1 v H1 q1 s1 ok1 v1 => by
    obtain ⟨x, rfl, hv, q2⟩ := dv_dat v1 ((T.wp_bind _ _).mp q1)
    obtain ⟨xs, ex, q3⟩ := T.wp_of.mp ((T.wp_bind _ _).mp q2)
    have fin : ∀ a us, (SqT X.K H1 a us ∨ SqL X.K H1 a us) → DVs F.K (hid M H1) us xs → v = .ref a → ∃ p xs, v = V.ref p ∧ (SqT X.K H1 p xs ∨ SqL X.K H1 p xs) ∧ tA F Z g σ H1 fun ys H2 => Q (xs ++ ys) H2 := fun a us h1 h2 h3 =>
      ⟨a, us, h3, h1, goA ok1 ((T.wp_bind _ _).mp q3) fun ws n2 vs H2 q4 s2 ok2 v2 => q4 (us ++ vs) H2 (s1.trans s2) ok2 ((VOks.ofData (h2.same s2.s)).append v2)⟩
    match x, hv, ex with
    | .tuple ds, .tup h1 h2, ex =>
      cases ex
      exact fin _ _ (.inl (by rw [hK]; exact seqT hid_to h1)) h2 rfl
    | .list ds, .lst h1 h2, ex =>
      cases ex
      exact fin _ _ (.inr (SqL.of (hid_to _ _ h1))) h2 rfl⟩
end
/-! ### a def that is handed a lambda -/
structure LamK (P : Program) (w : World) (K : Kx) (mg : Str → Option Value) (base : Heap) (k : Nat) (x : Str) (L : Nat) (b : R D → FS) : Prop where
  ex : ∃ (g : Addr) (oc : Value) (pg : Arguments) (bg : List Stmt) (sg : Scope) (dV kV doc pm cdv ct : Value) (an od : Option Addr) (osl : Array (Option Value)) (Ng : List Str) (a : Str),
    mg x = some (.ref g) ∧ PySem.W.keepIn K.K (.ref g) = true ∧ K.K.lookup g = some ⟨oc, od, .func (PySem.W.fnOf x x pg bg sg dV kV doc pm an cdv ct), osl⟩ ∧ PySem.W.codeIn K.K cdv x = true ∧
    L2.Binds K.K (PySem.W.fnOf x x pg bg sg dV kV doc pm an cdv ct) [a] [] ∧ FnScope Ng [a] sg ∧ Ng[0]? = some a ∧ Vis sg a ∧ GvF P w K mg base (k + 1) x Ng sg bg a b ∧ Ng.length = L ∧ (a == ("__debug__" : Str)) = false ∧ (a == ("__classdict__" : Str)) = false
section
variable {X : Cx} {F : Fc} {x : Str} {P : Addr} {j k L : Nat} {params : Arguments} {body : Expr} {scope : Scope} {p lpos pos : Pos} {fl : FE} {b : R D → FS}
theorem pf_lamk {tb : List (Addr × Str)} (Dk : LamK X.prog X.w F.K X.mg X.base k x L b) (hT : F.tb = tb) (hg : Gl X x) (hmade : Made X tb P params body scope lpos) (hmT : (P, X.env.qual ++ "<lambda>") ∈ tb) (hr : RoomG j X.A) (hj : k + 2 ≤ j) (Lg : LamG X.N X.env.scope scope)
    (hfl : ∀ (A : Around) (outer : List Env) (s : Shared) (H : Hp) (E : XK) (f c' : Addr) (F' : Fc), F'.K = F.K → F'.tb = F.tb → RoomG k (A.deeper (lamEnv X scope s.heap.objs.size f c')) → PF (lamCx X A outer s H E scope f c') F' body fl) (hK : X.K = F.K.K := by rfl) (hdb : (x == ("__debug__" : Str)) = false := by decide) :
    PF X F (.Call (.Name x p) [.Lambda params body scope lpos] [] pos) (fLam fl L b) := by
  subst hT
  obtain ⟨g, oc, pg, bg, sg, dV, kV, doc, pm, cdv, ct, an, od, osl, Ng, a, h1, h2, h3, h4, h5, h6, h7, h8, h9, rfl, h10, h11⟩ := Dk.ex
  rw [← hK] at h2 h3 h4 h5
  exact pf_lam hg h1 h2 h3 h4 h5 h6 h7 h8 h9 hmade hmT (hr.mono hj) Lg hfl hK hdb h10 h11
end
/-- a constant of the module -/
def GlobF (K : Kx) (mg : Str → Option Value) (x : Str) (d : D) : Prop := ∃ u v, mg x = some u ∧ RelV v u ∧ ∀ G, DV K G v d
theorem pf_globf {X : Cx} {F : Fc} {x : Str} {d : D} {pos : Pos} (h : GlobF F.K X.mg x d) (hg : Gl X x) (hdb : (x == ("__debug__" : Str)) = false := by decide) : PF X F (.Name x pos) (fC d) := by
  obtain ⟨u, v, h1, h2, h3⟩ := h
  exact pf_glob hg h1 h2 h3 hdb
def ExmF (K : Kx) (cv : Value) (l : List (Nat × Bool)) : Prop := ∀ p ∈ l, PySem.W.exmOne K.K (.ref (K.ct p.1)) cv = some p.2
theorem exm_of {K : Kx} {cv : Value} : ∀ {l : List (Nat × Bool)}, ExmF K cv l → ∀ c b, l.lookup c = some b → PySem.W.exmOne K.K (.ref (K.ct c)) cv = some b
  | [], _, c, b, e => by cases e
  | (c0, b0) :: l, h, c, b, e => by
    by_cases z : c == c0
    · have e' : some b0 = some b := by
        rw [List.lookup, z] at e
        exact e
      cases e'
      rw [beq_iff_eq.mp z]
      exact h (c0, b0) (List.mem_cons_self ..)
    · have z' : (c == c0) = false := by simpa using z
      have e' : l.lookup c = some b := by
        rw [List.lookup, z'] at e
        exact e
      exact exm_of (fun p hp => h p (List.mem_cons_of_mem _ hp)) c b e'
/-! ### the law -/
def tLaw (K : Kx) (tb : List (Addr × Str)) (b : FS) : TS := fun E σ H => ∃ F, F.K = K ∧ F.tb = tb ∧ tS F (fun _ _ _ => False) b E σ H
theorem pss_law {X : Cx} {K : Kx} {tb : List (Addr × Str)} {rest : List Stmt} {b : FS} (h : ∀ F, F.K = K → F.tb = tb → PFB X F rest b) : PSs X rest (tLaw K tb b) := ⟨fun pins s σ H D I ⟨F, e1, e2, q⟩ => ((h F e1 e2).ps _ lk0).run pins s σ H D I q⟩
def spLaw (K : PySem.W.Frag) (tb : List (Addr × Str)) : Sp := fun vs H Q _ => ∃ (a : Addr) (ns : List Int), vs = [.ref a] ∧ SqL K H a (ns.map V.int) ∧ ns.length ≤ 63 ∧ Tabs tb H ∧ ∀ H', Q (.bl true) H'
/-- the law's own reckoning says True -/
def Says (b : FS) (L i : Nat) : Prop := (b (lawD L i)).wp 0 (fun o _ => ∃ d, o = .rt d ∧ d = .bool true) (fun _ _ => False)
theorem law_read {K : Kx} {tb : List (Addr × Str)} {b : FS} {L i : Nat} {p l : Addr} {ms : List Int} {H : Hp} {σ : L2.St} {E : Ends} (hS : Says b L i) (hσ : σ.length = L) (hi : σ[i]? = some (some (.ref p))) (Tb : Tabs tb H) (hp : p ≠ l) (h60 : ms.length ≤ 60) (h1 : H l = some (.lst (ms.map V.int))) (h2 : ∃ t r : Int, 0 ≤ t ∧ t ≤ ((0 : Nat) : Int) ∧ 0 ≤ r ∧ H p = some (.lst [.ref l, .int t, .int r]))
    (hE : ∀ H', E.rt (.bl true) H') : tLaw K tb b E σ H :=
  ⟨lawF K tb p l ms H, rfl, rfl, _, _, 0, law_start hσ hi Tb hp h60 h1 h2, T.wp_mono (fun o n h => by
    obtain ⟨d, rfl, rfl⟩ := h
    intro v H' r
    cases r.val
    exact hE H') (fun _ _ z => z) _ _ hS⟩
end FL

/-! Defs that make lambdas; the law's promise. -/
namespace FL
open PySem PySem.Spec PyProof.Rows L2 Gd Fx Stp LamX Lm
/-- a def whose code object is known -/
structure FunC (K : PySem.W.Frag) (x : Str) (st : Stmt) (f c : Addr) (fd : FuncData) : Prop where
  ex : ∃ (oc kV doc pm ct : Value) (od an : Option Addr) (osl : Array (Option Value)), fd = PySem.W.fnOf x x (defArgs st) (defBody st) (defScope st) .none kV doc pm an (.ref c) ct ∧ K.lookup f = some ⟨oc, od, .func fd, osl⟩ ∧ PySem.W.codeIn K (.ref c) x = true
theorem room5 {k : Nat} {A : Around} (r : Room k A) : A.units + 65 < cLine := by
  have := r.un
  omega
def lamQ (q : Str) (sc : Scope) : Str := (envOfC q sc 0 0 .none).qual ++ "<lambda>"
def spFT (K : Kx) (tb : List (Addr × Str)) (g : FFn) : Sp := fun vs H Q E => ∃ (F : Fc) (n : Nat) (ws : List W), F.K = K ∧ F.tb = tb ∧ F.H0 = H ∧ Ent F n vs ws ∧ (g ws).wp n (fun d n' => ∀ v H', Ret F H' n' v d → Q v H') (fun x n' => ∀ cls d M σ H' δ, Ok F M σ H' δ n' → XnOk K (hid M H') cls d x → E cls d H')
section
variable {P : Program} {w : World} {K : Kx} {mg : Str → Option Value} {base : Heap} {k : Nat} {f c : Addr} {fd : FuncData} {ps : List Str} {x : Str} {st : Stmt} {N : List Str} {fb : FS} {tb : List (Addr × Str)}
theorem okFT (FU : FunC K.K x st f c fd) (S : FnScope N ps (defScope st))
    (hbody : ∀ (A : Around) (outer : List Env) (s : Shared) (H : Hp) (E : XK) (F : Fc), F.K = K → F.tb = tb → RoomG k (A.deeper (envOfC x (defScope st) s.heap.objs.size f (.ref c))) →
      PFB (cxOf (L2.CX P w) P w K.K mg base N x (defScope st) f (.ref c) A outer s H E) F (defBody st) fb) :
    FnG P w K.K mg base (L2.CX P w) (k + 1) f fd ps (spFT K tb (mk N.length ps.length fb)) := by
  obtain ⟨oc, kV, doc, pm, ct, od, an, osl, rfl, lk, hcd⟩ := FU.ex
  refine fn_ofG lk hcd S (fun vs H Q E ⟨F, n, ws, _, _, _, h, q⟩ => ?_) (fun A outer s H vs Q E hr ⟨F, n, ws, e1, e3, e2, h, q⟩ => ?_)
  · rw [h.arg.length]
    exact (wp_if q).1
  · obtain ⟨hl, q⟩ := wp_if q
    have tk : Lk (cxOf (L2.CX P w) P w K.K mg base N x (defScope st) f (.ref c) A outer s H E) F (fun x n' _ => ∀ cls d M σ H' δ, Ok F M σ H' δ n' → XnOk K (hid M H') cls d x → E cls d H') :=
      (takes_of (X := cxOf (L2.CX P w) P w K.K mg base N x (defScope st) f (.ref c) A outer s H E) rfl rfl rfl rfl).imp fun cls d σ H' ⟨M, δ, n', x, ok, hx, z⟩ => z cls d M σ H' δ ok (by rw [e1] at hx; exact hx)
    refine ⟨_, (hbody A outer s H E F e1 e3 hr).ps _ tk, ?_⟩
    rw [← e2]
    refine ⟨_, _, n, h.start, T.wp_mono (fun o n' q2 => ?_) (fun _ _ z => z) _ _ ((T.wp_mapEx _ _).mp ((T.wp_bind _ _).mp q))⟩
    match o, q2 with
    | .nx δ, q2 => exact fun M σ H ok => q2 .non H (ok.ret .non)
    | .rt d, q2 => exact q2
structure CalFT (P : Program) (w : World) (K : Kx) (tb : List (Addr × Str)) (mg : Str → Option Value) (base : Heap) (k : Nat) (x : Str) (g : FFn) : Prop where
  ex : ∃ (f : Addr) (fd : FuncData) (ps : List Str), FnG P w K.K mg base (L2.CX P w) k f fd ps (spFT K tb g) ∧ mg x = some (.ref f) ∧ PySem.W.keepIn K.K (.ref f) = true ∧ L2.Binds K.K fd ps []
/-- the law itself -/
theorem okLaw {fW : Addr} {fdW : FuncData} {rest : List Stmt} {b : FS} {pn p2 p3 p4 p5 : Pos} {spW : Sp} (FU : FunC K.K x st f c fd) (S : FnScope N ["script"] (defScope st)) (GW : FnOk P w K.K mg base CX0 1 fW fdW ["script"] spW) (gW : mg "_law_well" = some (.ref fW)) (kW : PySem.W.keepIn K.K (.ref fW) = true) (bW : L2.Binds K.K fdW ["script"] []) (hk : 1 ≤ k)
    (hspW : ∀ (a : Addr) (ns : List Int) (H : Hp) (Q : VK) (E : XK), SqL K.K H a (ns.map V.int) → ns.length ≤ 63 → (∀ (p l : Addr) (ms : List Int) (H' : Hp), p ≠ l → ms.length ≤ 60 → H' l = some (.lst (ms.map V.int)) → (∃ t r : Int, 0 ≤ t ∧ t ≤ ((0 : Nat) : Int) ∧ 0 ≤ r ∧ H' p = some (.lst [.ref l, .int t, .int r])) → Same H H' → Q (.ref p) H') → spW [.ref a] H Q E)
    (hb : defBody st = .Assign [.Name "well" pn] (.Call (.Name "_law_well" p2) [.Name "script" p3] [] p4) p5 :: rest) (hN : N[1]? = some ("well" : Str)) (hN0 : N[0]? = some ("script" : Str)) (hloc : Loc (defScope st) "well") (hvis : Vis (defScope st) "script") (hgl : ∀ (A : Around) (outer : List Env) (s : Shared) (H : Hp) (E : XK), Gl (cxOf (L2.CX P w) P w K.K mg base N x (defScope st) f (.ref c) A outer s H E) "_law_well")
    (hsw : ∀ (A : Around) (outer : List Env) (s : Shared) (H : Hp) (E : XK), swapsWith (.Call (.Name "_law_well" p2) [.Name "script" p3] [] p4) (some (.Name "well" pn)) p5.line (cxOf (L2.CX P w) P w K.K mg base N x (defScope st) f (.ref c) A outer s H E).env = pure false)
    (hf : ∀ (A : Around) (outer : List Env) (s : Shared) (H : Hp) (E : XK), (cxOf (L2.CX P w) P w K.K mg base N x (defScope st) f (.ref c) A outer s H E).fn "well" = true ∨ (defScope st).names.lookup ("well" : Str) = some .local) (hS : Says b N.length 1)
    (hbody : ∀ (A : Around) (outer : List Env) (s : Shared) (H : Hp) (E : XK) (F : Fc), F.K = K → F.tb = tb → RoomG k (A.deeper (envOfC x (defScope st) s.heap.objs.size f (.ref c))) →
      PFB (cxOf (L2.CX P w) P w K.K mg base N x (defScope st) f (.ref c) A outer s H E) F rest b) :
    FnG P w K.K mg base (L2.CX P w) (k + 1) f fd ["script"] (spLaw K.K tb) := by
  obtain ⟨oc, kV, doc, pm, ct, od, an, osl, rfl, lk, hcd⟩ := FU.ex
  refine fn_ofG lk hcd S (fun vs H Q E ⟨a, ns, h, _⟩ => by rw [h]; rfl) (fun A outer s H vs Q E hr ⟨a, ns, e1, hq, hl, hT, hQ⟩ => ?_)
  rw [hb]
  refine ⟨_, pss_cons (ps_set (i := 1) S.nd hN hloc (pe_call GW (hr.toRoom.mono hk) (hgl A outer s H E) gW kW bW .nil pass0 (pa_cons (pvv 0 hN0 hvis) pa_nil)) (hsw A outer s H E) (hf A outer s H E)) (pss_law fun F e1 e2 => hbody A outer s H E F e1 e2 hr), ?_⟩
  subst e1
  have hL : (start N [V.ref a]).length = N.length := by
    unfold L2.start
    have : 1 < N.length := (List.getElem?_eq_some_iff.mp hN).1
    simp
    omega
  refine ⟨_, rfl, hspW a ns H _ _ hq hl fun p l ms H' hp h60 h1 h2 sm => ?_⟩
  refine law_read hS (by rw [List.length_set]; exact hL) (List.getElem?_set_self (by rw [hL]; exact (List.getElem?_eq_some_iff.mp hN).1)) (hT.ext sm) hp h60 h1 h2 fun H' => hQ H'
end
section
variable {X : Cx} {F : Fc} {j k : Nat} {x : Str} {p pos : Pos} {e : Expr} {es : List Expr} {fa : FA} {g : FFn} {tb : List (Addr × Str)}
theorem call_spT {Z : ZF} {M : List Addr} {σ : L2.St} {H H1 : Hp} {δ : Sl} {n1 : Nat} {ws : List W} {vs : List V} {Q : VK} {K : PySem.W.Frag} (hT : F.tb = tb) (hK : K = F.K.K) (s1 : Kp F M H H1) (ok1 : Ok F M σ H1 δ n1) (v1 : VOks F M H1 vs ws) (ha : ws.all W.arg = true)
    (q : (g ws).wp n1 (fun d n2 => ∀ v H', Kp F M H H' → Ok F M σ H' δ n2 → DV F.K (hid M H') v d → Q v H') (fun x n' => Z x n' δ)) : spFT F.K tb g vs H1 Q (fun cls d H => WZ F Z cls d σ H) := by
  refine ⟨FL.sub F M H1, n1, ws, rfl, hT, rfl, ok1.ent v1 ha, T.wp_mono (fun d n2 q2 v H2 r => ?_) (fun x n2 z cls d M' σ' H2 δ' r hx => ?_) _ _ q⟩
  · obtain ⟨h1, h2⟩ := ok1.retS r.toRetB
    exact q2 v H2 (s1.trans h1) h2 r.val
  · have k : Same (hid M' H2) (hid M H2) := hid_sub r.sub
    obtain ⟨h1, h2⟩ := ok1.retS r.retB
    exact ⟨M, δ, n2, x, h2, hx.same k, z⟩
theorem pf_calt (C : CalFT X.prog X.w F.K tb X.mg X.base j x g) (hT : F.tb = tb) (hr : RoomG k X.A) (hj : j ≤ k) (hgl : Gl X x) (ha : PFA X F (e :: es) fa) (hK : X.K = F.K.K := by rfl) (hdb : (x == ("__debug__" : Str)) = false := by decide)
    (he : starEach (e :: es) X.env = (false, eval e X.env) :: starEach es X.env := by rfl) (hpl : (backTo pos (starEach es X.env)).any (·.1) = false := by rfl) : PF X F (.Call (.Name x p) (e :: es) [] pos) (fCall g fa) := by
  obtain ⟨f, fd, ps, FG, hm, hk, hb⟩ := C.ex
  rw [← hK] at FG hk hb
  refine ⟨fun Z tk => ⟨fun pins s σ H Q I ⟨M, δ, n, ok, q⟩ => wpAny_Call_Name_kw (ld_glob I hgl hm (PySem.W.callWith_K (h₀ := X.base) I.ok.mod.kin hk ?_ he hpl) hdb)⟩⟩
  refine thn ((ha.pa Z tk).run pos pins s σ H (fun vs H1 => spFT F.K tb g vs H1 Q (fun cls d H => WZ F Z cls d σ H)) I (goA ok ((T.wp_bind _ _).mp q) fun ws n1 vs H1 q1 s1 ok1 v1 => ?_)) fun us s1 ⟨vs, H1, I1, r, q⟩ => ⟨I1.kIn, run_fnGS FG (hr.mono hj) hb (passZ tk σ) I1 r q⟩
  obtain ⟨ha, q2⟩ := wp_call q1
  exact call_spT hT hK s1 ok1 v1 ha q2
end
end FL

/-! Fractions in lowest terms, in plain Lean. -/
namespace FrM
open PySem PySem.Spec FL
def cmn (p q : Int) : Int := if 0 < q then ((Nat.gcd p.natAbs q.natAbs : Nat) : Int) else -((Nat.gcd p.natAbs q.natAbs : Nat) : Int)
def lowI (p q : Int) : Int × Int := (p.fdiv (cmn p q), q.fdiv (cmn p q))
def fr (x : Int × Int) : D := .tuple [.int x.1, .int x.2]
/-- under 2^k -/
def bw (k : Nat) (i : Int) : Prop := i.natAbs < 2 ^ k
theorem absI (a : Int) : (if a < 0 then -a else a) = (a.natAbs : Int) := by
  by_cases c : a < 0
  · rw [if_pos c]
    omega
  · rw [if_neg c]
    omega
theorem cmn_ok {p q : Int} (h0 : q ≠ 0) (h1 : wide q = true) : cmn p q ≠ 0 ∧ wide (cmn p q) = true := by
  have e1 : (cmn p q).natAbs = Nat.gcd p.natAbs q.natAbs := by
    unfold cmn
    split <;> omega
  have hq : 0 < q.natAbs := by omega
  have g0 : 0 < Nat.gcd p.natAbs q.natAbs := Nat.gcd_pos_of_pos_right _ hq
  refine ⟨fun z => ?_, decide_eq_true ?_⟩
  · rw [z] at e1
    simp at e1
    omega
  · rw [e1]
    have h2 : q.natAbs.log2 < 8000 := of_decide_eq_true h1
    have h3 : Nat.gcd p.natAbs q.natAbs ≤ q.natAbs := Nat.gcd_le_right _ hq
    have h4 : Nat.gcd p.natAbs q.natAbs < 2 ^ 8000 := Nat.lt_of_le_of_lt h3 ((Nat.log2_lt (by omega)).mp h2)
    exact (Nat.log2_lt (by omega)).mpr h4
theorem bw_wide {k : Nat} {i : Int} (h : bw k i) (hk : k ≤ 8000 := by decide) : wide i = true := by
  refine decide_eq_true ?_
  have h1 : i.natAbs < 2 ^ 8000 := Nat.lt_of_lt_of_le h (Nat.pow_le_pow_right (by decide) hk)
  by_cases z : i.natAbs = 0
  · rw [z]
    decide
  · exact (Nat.log2_lt z).mpr h1
theorem wide_small {q : Int} (h0 : 0 < q) (h : q ≤ 1000000) : wide q = true := bw_wide (k := 20) (by show q.natAbs < 1048576; omega)
theorem cmn_abs (p q : Int) : (cmn p q).natAbs = Nat.gcd p.natAbs q.natAbs := by
  unfold cmn
  split <;> omega
theorem cmn_ne {p q : Int} (h : q ≠ 0) : cmn p q ≠ 0 := fun z => by
  have e := cmn_abs p q
  rw [z] at e
  have : 0 < Nat.gcd p.natAbs q.natAbs := Nat.gcd_pos_of_pos_right _ (by omega)
  simp at e
  omega
theorem cmn_p (p q : Int) : cmn p q ∣ p := Int.natAbs_dvd_natAbs.mp (by rw [cmn_abs]; exact Nat.gcd_dvd_left _ _)
theorem cmn_q (p q : Int) : cmn p q ∣ q := Int.natAbs_dvd_natAbs.mp (by rw [cmn_abs]; exact Nat.gcd_dvd_right _ _)
theorem fdiv_exact {c a : Int} (h : c ≠ 0) : (c * a).fdiv c = a := Int.mul_fdiv_cancel_left a h
theorem low1 {p q : Int} (h : q ≠ 0) : p = cmn p q * (lowI p q).1 := by
  obtain ⟨a, e⟩ := cmn_p p q
  have : (lowI p q).1 = a := by
    show p.fdiv (cmn p q) = a
    have h2 : p.fdiv (cmn p q) = (cmn p q * a).fdiv (cmn p q) := by rw [← e]
    rw [h2, fdiv_exact (cmn_ne h)]
  rw [this]
  exact e
theorem low2 {p q : Int} (h : q ≠ 0) : q = cmn p q * (lowI p q).2 := by
  obtain ⟨a, e⟩ := cmn_q p q
  have : (lowI p q).2 = a := by
    show q.fdiv (cmn p q) = a
    have h2 : q.fdiv (cmn p q) = (cmn p q * a).fdiv (cmn p q) := by rw [← e]
    rw [h2, fdiv_exact (cmn_ne h)]
  rw [this]
  exact e
theorem cmn_neg {p q : Int} (h : q < 0) : cmn p q = -cmn (-p) (-q) := by
  unfold cmn
  rw [if_neg (by omega), if_pos (by omega), Int.natAbs_neg, Int.natAbs_neg]
/-- the sign may move -/
theorem lowI_neg {p q : Int} (h : q < 0) : lowI p q = lowI (-p) (-q) := by
  have hq : q ≠ 0 := Int.ne_of_lt h
  have hq' : -q ≠ 0 := by omega
  have c0 := cmn_ne (p := -p) hq'
  have e := cmn_neg (p := p) h
  apply Prod.ext
  · have h1 := low1 (p := p) hq
    have h2 := low1 (p := -p) hq'
    rw [e] at h1
    apply Int.eq_of_mul_eq_mul_left c0
    rw [← h2]
    rw [Int.neg_mul] at h1
    omega
  · have h1 := low2 (p := p) hq
    have h2 := low2 (p := -p) hq'
    rw [e] at h1
    apply Int.eq_of_mul_eq_mul_left c0
    rw [← h2]
    rw [Int.neg_mul] at h1
    omega
theorem low_pos {p q : Int} (h : q ≠ 0) : 0 < (lowI p q).2 := by
  have e := low2 (p := p) h
  have g : 0 < Nat.gcd p.natAbs q.natAbs := Nat.gcd_pos_of_pos_right _ (by omega)
  by_cases c : 0 < q
  · have hc : 0 < cmn p q := by
      unfold cmn
      rw [if_pos c]
      omega
    rcases Int.lt_trichotomy (lowI p q).2 0 with z | z | z
    · have := Int.mul_neg_of_pos_of_neg hc z
      omega
    · rw [z, Int.mul_zero] at e
      exact absurd e h
    · exact z
  · have hc : cmn p q < 0 := by
      unfold cmn
      rw [if_neg c]
      omega
    rcases Int.lt_trichotomy (lowI p q).2 0 with z | z | z
    · have := Int.mul_pos_of_neg_of_neg hc z
      omega
    · rw [z, Int.mul_zero] at e
      exact absurd e h
    · exact z
theorem low_gcd {p q : Int} (h : q ≠ 0) : Nat.gcd (lowI p q).1.natAbs (lowI p q).2.natAbs = 1 := by
  have e1 := congrArg Int.natAbs (low1 (p := p) h)
  have e2 := congrArg Int.natAbs (low2 (p := p) h)
  rw [Int.natAbs_mul, cmn_abs] at e1 e2
  have g : 0 < Nat.gcd p.natAbs q.natAbs := Nat.gcd_pos_of_pos_right _ (by omega)
  have h3 : Nat.gcd p.natAbs q.natAbs = Nat.gcd p.natAbs q.natAbs * Nat.gcd (lowI p q).1.natAbs (lowI p q).2.natAbs := by
    rw [← Nat.gcd_mul_left, ← e1, ← e2]
  exact Nat.eq_of_mul_eq_mul_left g (by rw [← h3, Nat.mul_one])
theorem lowI_low {a b : Int} (hb : 0 < b) (g : Nat.gcd a.natAbs b.natAbs = 1) : lowI a b = (a, b) := by
  have c1 : cmn a b = 1 := by
    unfold cmn
    rw [if_pos hb, g]
    rfl
  unfold lowI
  rw [c1, Int.fdiv_one, Int.fdiv_one]
/-! sizes -/
theorem bw_mono {j k : Nat} {i : Int} (h : bw j i) (hk : j ≤ k) : bw k i := Nat.lt_of_lt_of_le h (Nat.pow_le_pow_right (by decide) hk)
theorem bw_mul {j k : Nat} {a b : Int} (h1 : bw j a) (h2 : bw k b) : bw (j + k) (a * b) := by
  show (a * b).natAbs < 2 ^ (j + k)
  rw [Int.natAbs_mul, Nat.pow_add]
  exact Nat.mul_lt_mul'' h1 h2
theorem bw_add {k : Nat} {a b : Int} (h1 : bw k a) (h2 : bw k b) : bw (k + 1) (a + b) := by
  show (a + b).natAbs < 2 ^ (k + 1)
  have e : 2 ^ (k + 1) = 2 ^ k + 2 ^ k := by rw [Nat.pow_succ]; omega
  have h1' : a.natAbs < 2 ^ k := h1
  have h2' : b.natAbs < 2 ^ k := h2
  omega
theorem bw_sub {k : Nat} {a b : Int} (h1 : bw k a) (h2 : bw k b) : bw (k + 1) (a - b) := by
  rw [Int.sub_eq_add_neg]
  exact bw_add h1 (show (-b).natAbs < 2 ^ k by rw [Int.natAbs_neg]; exact h2)
theorem low_bw {k j : Nat} {p q : Int} (h : q ≠ 0) (h1 : bw k p) (h2 : bw j q) : bw k (lowI p q).1 ∧ bw j (lowI p q).2 := by
  have e1 := congrArg Int.natAbs (low1 (p := p) h)
  have e2 := congrArg Int.natAbs (low2 (p := p) h)
  rw [Int.natAbs_mul] at e1 e2
  have hc : 0 < (cmn p q).natAbs := by
    have := cmn_ne (p := p) h
    omega
  exact ⟨Nat.lt_of_le_of_lt (by rw [e1]; exact Nat.le_mul_of_pos_left _ hc) h1, Nat.lt_of_le_of_lt (by rw [e2]; exact Nat.le_mul_of_pos_left _ hc) h2⟩
end FrM

/-! What simp knows of the functional layer. -/
namespace FL
open PySem PySem.Spec
section
variable {ε ε' α β : Type}
@[simp] theorem T.bind_draw (m : Int) (k : Int → T ε α) (f : α → T ε β) : (T.draw m k).bind f = .draw m fun v => (k v).bind f := rfl
@[simp] theorem T.mapEx_ret (g : ε → ε') (a : α) : (T.ret a).mapEx g = .ret a := rfl
@[simp] theorem T.mapEx_ex (g : ε → ε') (e : ε) : (T.ex e : T ε α).mapEx g = .ex (g e) := rfl
@[simp] theorem T.mapEx_bad (g : ε → ε') : (T.bad : T ε α).mapEx g = .bad := rfl
@[simp] theorem T.mapEx_draw (g : ε → ε') (m : Int) (k : Int → T ε α) : (T.draw m k).mapEx g = .draw m fun v => (k v).mapEx g := rfl
@[simp] theorem T.noex_ret (a : α) : ((T.ret a : T ε α).noex : T ε' α) = .ret a := rfl
@[simp] theorem T.noex_ex (e : ε) : ((T.ex e : T ε α).noex : T ε' α) = .bad := rfl
@[simp] theorem T.noex_bad : ((T.bad : T ε α).noex : T ε' α) = .bad := rfl
@[simp] theorem T.catch_ret (a : α) (h : ε → T ε' α) : (T.ret a : T ε α).catch_ h = .ret a := rfl
@[simp] theorem T.catch_ex (e : ε) (h : ε → T ε' α) : (T.ex e : T ε α).catch_ h = h e := rfl
@[simp] theorem T.catch_bad (h : ε → T ε' α) : (T.bad : T ε α).catch_ h = .bad := rfl
@[simp] theorem T.of_some (a : α) : (T.of (some a) : T ε α) = .ret a := rfl
@[simp] theorem T.of_none : (T.of none : T ε α) = .bad := rfl
theorem T.bind_bind {γ : Type} {f : α → T ε β} {g : β → T ε γ} : ∀ t : T ε α, (t.bind f).bind g = t.bind fun a => (f a).bind g
  | .ret a => rfl
  | .ex e => rfl
  | .bad => rfl
  | .draw m k => congrArg (T.draw m) (funext fun v => T.bind_bind (k v))
theorem T.bind_ret : ∀ t : T ε α, (t.bind fun a => .ret a) = t
  | .ret a => rfl
  | .ex e => rfl
  | .bad => rfl
  | .draw m k => congrArg (T.draw m) (funext fun v => T.bind_ret (k v))
@[simp] theorem T.wp_ret {a : α} {n : Nat} {Q : α → Nat → Prop} {Z : ε → Nat → Prop} : (T.ret a).wp n Q Z ↔ Q a n := Iff.rfl
@[simp] theorem T.wp_ex {e : ε} {n : Nat} {Q : α → Nat → Prop} {Z : ε → Nat → Prop} : (T.ex e : T ε α).wp n Q Z ↔ Z e n := Iff.rfl
@[simp] theorem T.wp_bad {n : Nat} {Q : α → Nat → Prop} {Z : ε → Nat → Prop} : (T.bad : T ε α).wp n Q Z ↔ False := Iff.rfl
end
@[simp] theorem W.rd_d (x : D) : (W.d x).rd = .ret x := rfl
@[simp] theorem W.rd_ln (x : D) : (W.ln x).rd = .ret x := rfl
@[simp] theorem W.dat_d (x : D) : (W.d x).dat = .ret x := rfl
@[simp] theorem W.isB_b (b : Bool) : (W.d (.bool b)).isB = .ret b := rfl
@[simp] theorem rdL_nil : rdL [] = .ret [] := rfl
@[simp] theorem rdL_cons (w : W) (ws : List W) : rdL (w :: ws) = w.rd.bind fun x => (rdL ws).bind fun xs => .ret (x :: xs) := rfl
@[simp] theorem datL_nil : datL [] = .ret [] := rfl
@[simp] theorem datL_cons (w : W) (ws : List W) : datL (w :: ws) = w.dat.bind fun x => (datL ws).bind fun xs => .ret (x :: xs) := rfl
@[simp] theorem fVar_def (i : Nat) (δ : Sl) : fVar i δ = (match δ[i]? with
  | some (some (.v w)) => .ret w
  | some (some (.own x)) => .ret (.ln x.shown)
  | _ => .bad) := rfl
@[simp] theorem fC_def (d : D) (δ : Sl) : fC d δ = .ret (.d d) := rfl
@[simp] theorem fNil_def (δ : Sl) : fNil δ = .ret [] := rfl
@[simp] theorem fCons_def (f : FE) (g : FA) (δ : Sl) : fCons f g δ = (f δ).bind fun w => (g δ).bind fun ws => .ret (w :: ws) := rfl
@[simp] theorem small_def (ds : List D) : small ds = if ds.length ≤ 1000000 then .ret () else .bad := rfl
@[simp] theorem fSeq_def (mk : List D → D) (f : FA) (δ : Sl) : fSeq mk f δ = (f δ).bind fun ws => (datL ws).bind fun ds => (small ds).bind fun _ => .ret (.d (mk ds)) := rfl
@[simp] theorem fOp_def (g : D → D → Option D) (f1 f2 : FE) (δ : Sl) : fOp g f1 f2 δ = (f1 δ).bind fun a => (f2 δ).bind fun b => a.rd.bind fun x => b.rd.bind fun y => (T.of (g x y)).bind fun z => .ret (.d z) := rfl
@[simp] theorem fVal_def (f : FE) (δ : Sl) : fVal f δ = (f δ).bind fun w => w.isB := rfl
@[simp] theorem fAnd_def (t u : FT) (δ : Sl) : fAnd t u δ = (t δ).bind fun c => if c = true then u δ else .ret false := rfl
@[simp] theorem fOr_def (t u : FT) (δ : Sl) : fOr t u δ = (t δ).bind fun c => if c = true then .ret true else u δ := rfl
@[simp] theorem fNot_def (t : FT) (δ : Sl) : fNot t δ = (t δ).bind fun c => .ret (!c) := rfl
@[simp] theorem fAndV_def (a b : FE) (δ : Sl) : fAndV a b δ = (a δ).bind fun w => w.isB.bind fun c => if c = true then b δ else .ret (.d (.bool false)) := rfl
@[simp] theorem fOrV_def (a b : FE) (δ : Sl) : fOrV a b δ = (a δ).bind fun w => w.isB.bind fun c => if c = true then .ret (.d (.bool true)) else b δ := rfl
@[simp] theorem fNotV_def (a : FE) (δ : Sl) : fNotV a δ = (a δ).bind fun w => w.isB.bind fun c => .ret (.d (.bool (!c))) := rfl
@[simp] theorem fIfE_def (t : FT) (a b : FE) (δ : Sl) : fIfE t a b δ = (t δ).bind fun c => if c = true then a δ else b δ := rfl
@[simp] theorem boolOf_some (b : Bool) : boolOf (some (.bool b)) = .ret b := rfl
@[simp] theorem fChn_def (r r' : D → D → Option D) (f g h : FE) (δ : Sl) : fChn r r' f g h δ = (f δ).bind fun a => (g δ).bind fun b => a.rd.bind fun x => b.rd.bind fun y => (boolOf (r x y)).bind fun k =>
  if k = true then (h δ).bind fun c => c.rd.bind fun z => (T.of (r' y z)).bind fun d => .ret (.d d) else .ret (.d (.bool false)) := rfl
@[simp] theorem lft_def {α : Type} (δ : Sl) (t : R α) : lft δ t = t.mapEx fun x => (x, δ) := rfl
@[simp] theorem sNext_def (δ : Sl) : sNext δ = .ret (.nx δ) := rfl
@[simp] theorem oSeq_nx (g : FS) (δ : Sl) : oSeq g (.nx δ) = g δ := rfl
@[simp] theorem oSeq_rt (g : FS) (d : D) : oSeq g (.rt d) = .ret (.rt d) := rfl
@[simp] theorem oSeq_bk (g : FS) (δ : Sl) : oSeq g (.bk δ) = .ret (.bk δ) := rfl
@[simp] theorem oSeq_ct (g : FS) (δ : Sl) : oSeq g (.ct δ) = .ret (.ct δ) := rfl
@[simp] theorem sSeq_def (f g : FS) (δ : Sl) : sSeq f g δ = (f δ).bind (oSeq g) := rfl
@[simp] theorem sSet_def (i : Nat) (f : FE) (δ : Sl) : sSet i f δ = (lft δ (f δ)).bind fun w => (lft δ w.dat).bind fun x => .ret (.nx (δ.set i (some (S.v (.d x))))) := rfl
@[simp] theorem sIf_def (c : FT) (f g : FS) (δ : Sl) : sIf c f g δ = (lft δ (c δ)).bind fun b => if b = true then f δ else g δ := rfl
@[simp] theorem sRet_def (f : FE) (δ : Sl) : sRet f δ = (lft δ (f δ)).bind fun w => (lft δ w.dat).bind fun x => .ret (.rt x) := rfl
@[simp] theorem sRetN_def (δ : Sl) : sRetN δ = .ret (.rt .none) := rfl
@[simp] theorem sDrop_def (f : FE) (δ : Sl) : sDrop f δ = (lft δ (f δ)).bind fun _ => .ret (.nx δ) := rfl
@[simp] theorem sBrk_def (δ : Sl) : sBrk δ = .ret (.bk δ) := rfl
@[simp] theorem sCnt_def (δ : Sl) : sCnt δ = .ret (.ct δ) := rfl
@[simp] theorem sUnp_def (p : Tg) (f : FE) (δ : Sl) : sUnp p f δ = (lft δ (f δ)).bind fun w => (lft δ w.dat).bind fun x => (T.of (putT p δ x)).bind fun δ' => .ret (.nx δ') := rfl
@[simp] theorem sPar_def (i j : Nat) (fa : FA) (δ : Sl) : sPar i j fa δ = (lft δ (fa δ)).bind fun ws => (lft δ (datL ws)).bind fun ds => (T.of (putAll δ [i, j] ds)).bind fun δ' => .ret (.nx δ') := rfl
@[simp] theorem putT_one (i : Nat) (δ : Sl) (d : D) : putT (.one i) δ d = some (δ.set i (some (S.v (.d d)))) := rfl
@[simp] theorem putT_tup (is : List Nat) (δ : Sl) (ds : List D) : putT (.many is) δ (.tuple ds) = putAll δ is ds := rfl
@[simp] theorem putT_lst (is : List Nat) (δ : Sl) (ds : List D) : putT (.many is) δ (.list ds) = putAll δ is ds := rfl
@[simp] theorem putAll_cons (δ : Sl) (i : Nat) (is : List Nat) (d : D) (ds : List D) : putAll δ (i :: is) (d :: ds) = putAll (δ.set i (some (S.v (.d d)))) is ds := rfl
@[simp] theorem putAll_nil (δ : Sl) : putAll δ [] [] = some δ := rfl
@[simp] theorem fIt_def (f : FE) (δ : Sl) : fIt f δ = (f δ).bind fun w => w.dat.bind fun x => T.of (itemsOf x) := rfl
@[simp] theorem itemsOf_l (ds : List D) : itemsOf (.list ds) = some ds := rfl
@[simp] theorem itemsOf_t (ds : List D) : itemsOf (.tuple ds) = some ds := rfl
@[simp] theorem itemsOf_s (x : Str) : itemsOf (.str x) = some (signs x) := rfl
@[simp] theorem rng1_def (j : Int) : rng1 (.int j) = if -(2 ^ 62) ≤ j ∧ j < 2 ^ 62 then .ret (nums 0 j.toNat) else .bad := rfl
@[simp] theorem fRng1_def (f : FE) (δ : Sl) : fRng1 f δ = (f δ).bind fun w => w.rd.bind rng1 := rfl
@[simp] theorem oLoop_nx (g : FS) (δ : Sl) : oLoop g (.nx δ) = g δ := rfl
@[simp] theorem oLoop_ct (g : FS) (δ : Sl) : oLoop g (.ct δ) = g δ := rfl
@[simp] theorem oLoop_bk (g : FS) (δ : Sl) : oLoop g (.bk δ) = .ret (.nx δ) := rfl
@[simp] theorem oLoop_rt (g : FS) (d : D) : oLoop g (.rt d) = .ret (.rt d) := rfl
@[simp] theorem sFor_def (fs : FI) (tg : Tg) (b : FS) (δ : Sl) : sFor fs tg b δ = (lft δ (fs δ)).bind fun xs => loopL tg b xs δ := rfl
theorem loopL_nil (tg : Tg) (b : FS) (δ : Sl) : loopL tg b [] δ = .ret (.nx δ) := rfl
theorem loopL_cons (tg : Tg) (b : FS) (x : D) (xs : List D) (δ : Sl) : loopL tg b (x :: xs) δ = (T.of (putT tg δ x)).bind fun δ1 => (b δ1).bind (oLoop (loopL tg b xs)) := rfl
theorem whileN_succ (c : FT) (b : FS) (k : Nat) (δ : Sl) : whileN c b (k + 1) δ = (lft δ (c δ)).bind fun t => if t = true then (b δ).bind (oLoop (whileN c b k)) else .ret (.nx δ) := rfl
@[simp] theorem fYes_def (δ : Sl) : fYes δ = .ret true := rfl
@[simp] theorem fOne_def (fe : FE) (δ : Sl) : fOne fe δ = (fe δ).bind fun w => w.dat.bind fun d => .ret [d] := rfl
@[simp] theorem itemsL_nil (tg : Tg) (δ : Sl) (ft : FT) (g : Sl → R (List D)) : itemsL tg δ ft g [] = .ret [] := rfl
@[simp] theorem fLc_def (fs : FI) (tg : Tg) (vs : List Nat) (ft : FT) (fe : FE) (δ : Sl) : fLc fs tg vs ft fe δ = if noOwns δ vs = true then (fs δ).bind fun xs => if xs.length ≤ 1000000 then ((itemsL tg (wipeD δ vs) ft (fOne fe) xs).noex).bind fun ys => .ret (.d (.list ys)) else .bad else .bad := rfl
@[simp] theorem fCB_def (g : List D → Option D) (fa : FA) (δ : Sl) : fCB g fa δ = (fa δ).bind fun ws => (rdL ws).bind fun xs => (T.of (g xs)).bind fun d => .ret (.d d) := rfl
@[simp] theorem fIsi_def (B : Option String) (tb : List (Nat × Bool)) (f : FE) (δ : Sl) : fIsi B tb f δ = (f δ).bind fun w => w.rd.bind fun x => (T.of (isB B tb x)).bind fun b => .ret (.d (.bool b)) := rfl
@[simp] theorem fIsi2_def (f : FE) (δ : Sl) : fIsi2 f δ = (f δ).bind fun w => w.rd.bind fun x => (T.of (isB2 x)).bind fun b => .ret (.d (.bool b)) := rfl
@[simp] theorem fSlice_def (f : FE) (lo hi : FO) (δ : Sl) : fSlice f lo hi δ = (f δ).bind fun w => (lo δ).bind fun l => (hi δ).bind fun u => w.rd.bind fun x => (T.of (dCut x l u)).bind fun d => .ret (.d d) := rfl
@[simp] theorem oNo_def (δ : Sl) : oNo δ = .ret none := rfl
@[simp] theorem intOf_def (i : Int) : intOf (.int i) = some i := rfl
@[simp] theorem oPart_def (f : FE) (δ : Sl) : oPart f δ = (f δ).bind fun w => w.rd.bind fun x => (T.of (intOf x)).bind fun i => .ret (some i) := rfl
@[simp] theorem fNeg_def (f : FE) (δ : Sl) : fNeg f δ = (f δ).bind fun w => w.rd.bind fun x => (T.of (intOf x)).bind fun i => .ret (.d (.int (-i))) := rfl
@[simp] theorem fin_rt (d : D) : fin (.rt d) = .ret d := rfl
@[simp] theorem fin_nx (δ : Sl) : fin (.nx δ) = .ret .none := rfl
@[simp] theorem mk_def (L m : Nat) (f : FS) (ws : List W) : mk L m f ws = if ws.length = m then ((f (startL L ws)).mapEx Prod.fst).bind fin else .bad := rfl
@[simp] theorem startL_def (L : Nat) (ws : List W) : startL L ws = ws.map (fun w => some (S.v w)) ++ List.replicate (L - ws.length) none := rfl
@[simp] theorem arg_d (x : D) : (W.d x).arg = true := rfl
@[simp] theorem arg_wl : W.wl.arg = true := rfl
@[simp] theorem fCall_def (g : FFn) (fa : FA) (δ : Sl) : fCall g fa δ = (fa δ).bind fun ws => if ws.all W.arg = true then (g ws).bind fun d => .ret (.d d) else .bad := rfl
@[simp] theorem fCallK_def (L : Nat) (prm : List Nat) (g : FFn) (fk : FA) (δ : Sl) : fCallK L prm g fk δ = (fk δ).bind fun ws => if ws.length = L then (fCall g (fun _ => .ret (permW prm ws))) δ else .bad := rfl
@[simp] theorem permW_def (prm : List Nat) (zs : List W) : permW prm zs = prm.map fun i => zs.getD i (.d .none) := rfl
@[simp] theorem sSetX_def (i : Nat) (f : FX) (δ : Sl) : sSetX i f δ = (lft δ (f δ)).bind fun w => .ret (.nx (δ.set i (some w.s))) := rfl
@[simp] theorem sParX_def (i j : Nat) (f g : FX) (δ : Sl) : sParX i j f g δ = (lft δ (f δ)).bind fun w => (lft δ (g δ)).bind fun u => .ret (.nx ((δ.set i (some w.s)).set j (some u.s))) := rfl
@[simp] theorem fXd_def (f : FE) (δ : Sl) : fXd f δ = (f δ).bind fun w => w.dat.bind fun x => .ret (.d x) := rfl
@[simp] theorem fXl_def (fa : FA) (δ : Sl) : fXl fa δ = (fa δ).bind fun ws => (datL ws).bind fun ds => (small ds).bind fun _ => .ret (.fr (.list ds)) := rfl
@[simp] theorem fXlist_def (f : FE) (δ : Sl) : fXlist f δ = (f δ).bind fun w => w.rd.bind fun x => (T.of (gList [x])).bind fun d => .ret (.fr d) := rfl
@[simp] theorem fXdict_def (δ : Sl) : fXdict δ = .ret (.fr (.dict [])) := rfl
@[simp] theorem WXs_d (x : D) : (WX.d x).s = .v (.d x) := rfl
@[simp] theorem WXs_fr (x : D) : (WX.fr x).s = .own x := rfl
@[simp] theorem listAt_def (δ : Sl) (i : Nat) : listAt δ i = (match δ[i]? with
  | some (some (.own (.list xs))) => .ret xs
  | _ => .bad) := rfl
@[simp] theorem sApp_def (i : Nat) (f : FE) (δ : Sl) : sApp i f δ = (lft δ (listAt δ i)).bind fun xs => (lft δ (f δ)).bind fun w => (lft δ w.dat).bind fun d => if xs.length < 1000000 then .ret (.nx (δ.set i (some (S.own (.list (xs ++ [d])))))) else .bad := rfl
@[simp] theorem sExt_def (i : Nat) (f : FE) (δ : Sl) : sExt i f δ = (lft δ (listAt δ i)).bind fun xs => (lft δ (f δ)).bind fun w => (lft δ w.dat).bind fun d => (lft δ (T.of (listOnly d))).bind fun ys => if xs.length + ys.length ≤ 1000000 then .ret (.nx (δ.set i (some (S.own (.list (xs ++ ys)))))) else .bad := rfl
@[simp] theorem sFrz_def (i : Nat) (f : FS) (δ : Sl) : sFrz i f δ = (match δ[i]? with
  | some (some (.own x)) => if x.isObj = false then f (δ.set i (some (S.v (.d x)))) else .bad
  | _ => .bad) := rfl
@[simp] theorem shown_l (ds : List D) : (D.list ds).shown = .list ds := rfl
@[simp] theorem shown_g (k : Nat) (ds : List D) : (D.tag k ds).shown = .list ds := rfl
@[simp] theorem shown_d (es : List (D × D)) : (D.dict es).shown = .dict es := rfl
@[simp] theorem shown_o (c : Nat) (fs : List (Str × D)) : (D.obj c fs).shown = .obj c fs := rfl
@[simp] theorem isObj_l (ds : List D) : (D.list ds).isObj = false := rfl
@[simp] theorem isObj_d (es : List (D × D)) : (D.dict es).isObj = false := rfl
@[simp] theorem sAppPop_def (i j : Nat) (f : FE) (δ : Sl) : sAppPop i j f δ = if i = j then .bad else (lft δ (listAt δ i)).bind fun xs => (lft δ (listAt δ j)).bind fun ys => (lft δ (f δ)).bind fun w => (lft δ w.rd).bind fun d => (lft δ (T.of (intOf d))).bind fun k =>
  if 0 ≤ k ∧ xs.length < 1000000 ∧ ys.length ≤ 1000000 then (lft δ (T.of ys[k.toNat]?)).bind fun y => .ret (.nx ((δ.set j (some (S.own (.list (ys.eraseIdx k.toNat))))).set i (some (S.own (.list (xs ++ [y])))))) else .bad := rfl
@[simp] theorem sRaise1_def (c : Nat) (fld : Str) (f : FE) (δ : Sl) : sRaise1 c fld f δ = (lft δ (f δ)).bind fun w => (lft δ w.dat).bind fun y => .ex (⟨c, [(fld, y)]⟩, δ) := rfl
@[simp] theorem sTry_def (fb : FS) (l : List Hd) (δ : Sl) : sTry fb l δ = (fb δ).catch_ (hand l) := rfl
@[simp] theorem gDraw_def (m : Int) : gDraw [.wl, .d (.int m)] = .draw m fun v => .ret (.int v) := rfl
@[simp] theorem fStar_def (f : FE) (g : FA) (δ : Sl) : fStar f g δ = (f δ).bind fun w => w.dat.bind fun x => (T.of (seqOf x)).bind fun xs => (g δ).bind fun ws => .ret (xs.map W.d ++ ws) := rfl
@[simp] theorem dAdd_i (i j : Int) : dAdd (.int i) (.int j) = some (.int (i + j)) := rfl
@[simp] theorem dSub_i (i j : Int) : dSub (.int i) (.int j) = some (.int (i - j)) := rfl
@[simp] theorem dMul_i (i j : Int) : dMul (.int i) (.int j) = if wide i = true ∧ wide j = true then some (.int (i * j)) else none := rfl
@[simp] theorem dMul_l (xs : List D) (k : Int) : dMul (.list xs) (.int k) = if 0 ≤ k ∧ k ≤ 1000 ∧ xs.length ≤ 1000 then some (.list (List.replicate k.toNat xs).flatten) else none := rfl
@[simp] theorem dMul_t (xs : List D) (k : Int) : dMul (.tuple xs) (.int k) = if xs ≠ [] ∧ 0 ≤ k ∧ k ≤ 1000 ∧ xs.length ≤ 1000 then some (.tuple (List.replicate k.toNat xs).flatten) else none := rfl
@[simp] theorem dFdiv_i (i j : Int) : dFdiv (.int i) (.int j) = if j ≠ 0 ∧ wide j = true then some (.int (i.fdiv j)) else none := rfl
@[simp] theorem dMod_i (i j : Int) : dMod (.int i) (.int j) = if j ≠ 0 then some (.int (i.fmod j)) else none := rfl
@[simp] theorem dAdd_t (xs ys : List D) : dAdd (.tuple xs) (.tuple ys) = if xs.length + ys.length ≤ 1000000 then some (.tuple (xs ++ ys)) else none := rfl
@[simp] theorem dAdd_l (xs ys : List D) : dAdd (.list xs) (.list ys) = if xs.length + ys.length ≤ 1000000 then some (.list (xs ++ ys)) else none := rfl
@[simp] theorem dLt_i (i j : Int) : dLt (.int i) (.int j) = some (.bool (decide (i < j))) := rfl
@[simp] theorem dLe_i (i j : Int) : dLe (.int i) (.int j) = some (.bool (decide (i ≤ j))) := rfl
@[simp] theorem dGt_i (i j : Int) : dGt (.int i) (.int j) = some (.bool (decide (j < i))) := rfl
@[simp] theorem dGe_i (i j : Int) : dGe (.int i) (.int j) = some (.bool (decide (j ≤ i))) := rfl
@[simp] theorem dLt_s (i j : Str) : dLt (.str i) (.str j) = some (.bool (decide (i.cps.toList < j.cps.toList))) := rfl
@[simp] theorem dEq_def (a b : D) : dEq a b = if ((isStr a && isStr b) || (okEq a && okEq b)) = true then some (.bool (eqv a b)) else none := rfl
@[simp] theorem dNe_def (a b : D) : dNe a b = if ((isStr a && isStr b) || (okEq a && okEq b)) = true then some (.bool (!eqv a b)) else none := rfl
@[simp] theorem isStr_s (x : Str) : isStr (.str x) = true := rfl
@[simp] theorem isStr_i (i : Int) : isStr (.int i) = false := rfl
@[simp] theorem isStr_l (ds : List D) : isStr (.list ds) = false := rfl
@[simp] theorem isStr_t (ds : List D) : isStr (.tuple ds) = false := rfl
@[simp] theorem isStr_n : isStr .none = false := rfl
@[simp] theorem isStr_b (b : Bool) : isStr (.bool b) = false := rfl
@[simp] theorem dIx_l (xs : List D) (i : Int) : dIx (.list xs) (.int i) = L2.atI xs i := rfl
@[simp] theorem dIx_t (xs : List D) (i : Int) : dIx (.tuple xs) (.int i) = L2.atI xs i := rfl
@[simp] theorem dCut_l (xs : List D) (l u : Option Int) : dCut (.list xs) l u = some (.list (cutD xs l u)) := rfl
@[simp] theorem dCut_t (xs : List D) (l u : Option Int) : dCut (.tuple xs) l u = some (.tuple (cutD xs l u)) := rfl
@[simp] theorem rDicts_l (xs : List D) : rDicts [.list xs] = some (.int xs.length) := rfl
@[simp] theorem rDicts_t (xs : List D) : rDicts [.tuple xs] = some (.int xs.length) := rfl
@[simp] theorem rDicts_s (x : Str) : rDicts [.str x] = if x.length ≤ 1000000 then some (.int x.length) else none := rfl
@[simp] theorem gAbs_i (i : Int) : gAbs [.int i] = some (.int (if i < 0 then -i else i)) := rfl
@[simp] theorem gInt_i (i : Int) : gInt [.int i] = some (.int i) := rfl
@[simp] theorem gInt_b (b : Bool) : gInt [.bool b] = some (.int (if b then 1 else 0)) := rfl
@[simp] theorem gMax_i (i j : Int) : gMax [.int i, .int j] = some (.int (if j > i then j else i)) := rfl
@[simp] theorem gTuple_l (ds : List D) : gTuple [.list ds] = some (.tuple ds) := rfl
@[simp] theorem gTuple_t (ds : List D) : gTuple [.tuple ds] = some (.tuple ds) := rfl
@[simp] theorem gList_l (ds : List D) : gList [.list ds] = some (.list ds) := rfl
@[simp] theorem gList_t (ds : List D) : gList [.tuple ds] = some (.list ds) := rfl
theorem atI_nn (xs : List D) (i : Nat) : L2.atI xs (i : Int) = xs[i]? := by
  cases e : xs[i]? with
  | some v => exact L2.atI_nat e
  | none =>
    have h : ¬ i < xs.length := fun h => by
      rw [List.getElem?_eq_getElem h] at e
      cases e
    unfold L2.atI L2.ixN
    rw [if_pos (by omega), if_neg (by omega)]
    rfl
@[simp] theorem atI_0 (xs : List D) : L2.atI xs 0 = xs[0]? := atI_nn xs 0
@[simp] theorem atI_1 (xs : List D) : L2.atI xs 1 = xs[1]? := atI_nn xs 1
@[simp] theorem atI_2 (xs : List D) : L2.atI xs 2 = xs[2]? := atI_nn xs 2
@[simp] theorem atI_3 (xs : List D) : L2.atI xs 3 = xs[3]? := atI_nn xs 3
@[simp] theorem atI_4 (xs : List D) : L2.atI xs 4 = xs[4]? := atI_nn xs 4
@[simp] theorem okEq_int (i : Int) : okEq (.int i) = true := rfl
theorem okEq_str (x : Str) : okEq (.str x) = PyData.strOk x := by
  show (true && (PyData.strOk x && true)) = _
  simp
@[simp] theorem okEq_none : okEq .none = true := rfl
@[simp] theorem okEq_bool (b : Bool) : okEq (.bool b) = true := rfl
@[simp] theorem okEq_nilL : okEq (.list []) = true := rfl
@[simp] theorem eqv_int (i j : Int) : eqv (.int i) (.int j) = decide (i = j) := by
  show (i == j) = _
  by_cases h : i = j <;> simp [h]
@[simp] theorem eqv_str (x y : Str) : eqv (.str x) (.str y) = decide (x = y) := by
  show (x == y) = _
  by_cases h : x = y <;> simp [h]
@[simp] theorem eqv_list (xs ys : List D) : eqv (.list xs) (.list ys) = PyData.eqvAll (D.pyL xs) (D.pyL ys) := rfl
@[simp] theorem eqv_tuple (xs ys : List D) : eqv (.tuple xs) (.tuple ys) = PyData.eqvAll (D.pyL xs) (D.pyL ys) := rfl
@[simp] theorem eqvAll_nil : PyData.eqvAll (D.pyL []) (D.pyL []) = true := rfl
@[simp] theorem eqvAll_cons (x y : D) (xs ys : List D) : PyData.eqvAll (D.pyL (x :: xs)) (D.pyL (y :: ys)) = (eqv x y && PyData.eqvAll (D.pyL xs) (D.pyL ys)) := rfl
@[simp] theorem eqvAll_nc (y : D) (ys : List D) : PyData.eqvAll (D.pyL []) (D.pyL (y :: ys)) = false := rfl
@[simp] theorem eqvAll_cn (y : D) (ys : List D) : PyData.eqvAll (D.pyL (y :: ys)) (D.pyL []) = false := rfl
end FL

/-! How long a repr can be. -/
namespace FL
open PySem PySem.Spec
mutual
def D.sw : D → Nat
  | .none => 4
  | .bool _ => 5
  | .int _ => 400
  | .str x => (reprText x).length
  | .list ds => D.swL ds + 4
  | .tuple ds => D.swL ds + 4
  | .dict _ => 0
  | .dicT _ => 0
  | .obj _ _ => 0
  | .any => 0
  | .tag _ _ => 0
def D.swL : List D → Nat
  | [] => 0
  | d :: ds => d.sw + 2 + D.swL ds
end
mutual
def D.inB : D → Bool
  | .int i => decide (i.natAbs < 2 ^ 1200)
  | .list ds => D.inBL ds
  | .tuple ds => D.inBL ds
  | .dict _ => false
  | .dicT _ => false
  | .obj _ _ => false
  | .any => false
  | .tag _ _ => false
  | _ => true
def D.inBL : List D → Bool
  | [] => true
  | d :: ds => d.inB && D.inBL ds
end
theorem int_len {i : Int} (h : i.natAbs < 2 ^ 1200) : (Str.ofString (toString i)).length ≤ 400 := by
  have p10 : (2 : Nat) ^ 1200 ≤ 10 ^ 399 := by decide +kernel
  by_cases h0 : 0 ≤ i
  · exact Nat.le_trans (PyProof.Rows.toString_length_le h0 (k := 399) (by decide) (by
      have : ((10 ^ 399 : Nat) : Int) = (10 : Int) ^ 399 := by push_cast; rfl
      omega)) (by decide)
  · rw [PyProof.Rows.toString_neg (by omega), PyProof.Rows.ofString_length]
    have := PyProof.Rows.toString_length_le (v := 0 - i) (by omega) (k := 399) (by decide) (by
      have : ((10 ^ 399 : Nat) : Int) = (10 : Int) ^ 399 := by push_cast; rfl
      omega)
    rw [PyProof.Rows.ofString_length] at this
    rw [String.toList_append, List.length_append]
    show 1 + _ ≤ 400
    omega
theorem textFrom_le : ∀ (ts : List Str) (k : Nat) (acc : Str), (PySem.textFrom k acc ts).length ≤ acc.length + PySem.piled ts
  | [], k, acc => Nat.le_refl _
  | t :: r, k, acc => by
    have h := textFrom_le r (k + 1) (acc ++ (if k > 0 then ", " else "" : String) ++ t)
    have e : (acc ++ (if k > 0 then ", " else "" : String) ++ t).length ≤ acc.length + 2 + t.length := by
      rw [PySem.strLen_append, PySem.strLen_append]
      have : (((if k > 0 then ", " else "" : String) : Str)).length ≤ 2 := by split <;> decide
      omega
    rw [PySem.piled_cons]
    show (PySem.textFrom (k + 1) (acc ++ (if k > 0 then ", " else "" : String) ++ t) r).length ≤ _
    omega
theorem tupleText_le (ts : List Str) : (PySem.tupleText ts).length ≤ 4 + PySem.piled ts := by
  unfold PySem.tupleText
  rw [PySem.strLen_append, PySem.strLen_append]
  have e1 : ((("(" : String) : Str)).length = 1 := rfl
  have e3 : (((if ts.length == 1 then ",)" else ")" : String) : Str)).length ≤ 2 := by split <;> decide
  by_cases h : ts = []
  · subst h
    have : (Str.join ", " []).length = 0 := rfl
    omega
  · have := PySem.join_length_add ts h
    omega
mutual
theorem shown_le : ∀ d : D, d.inB = true → d.py.shown.length ≤ d.sw
  | .none, _ => by decide
  | .bool b, _ => by cases b <;> decide
  | .int i, h => int_len (of_decide_eq_true h)
  | .str x, _ => Nat.le_refl _
  | .list ds, h => by
    have h2 := shownL_le ds h
    have h3 := textFrom_le (PyData.shownAll (D.pyL ds)) 0 "["
    show (PySem.textFrom 0 "[" (PyData.shownAll (D.pyL ds)) ++ "]").length ≤ D.swL ds + 4
    rw [PySem.strLen_append]
    have e1 : ((("[" : String) : Str)).length = 1 := rfl
    have e2 : ((("]" : String) : Str)).length = 1 := rfl
    omega
  | .tuple ds, h => by
    have h2 := shownL_le ds h
    have h3 := tupleText_le (PyData.shownAll (D.pyL ds))
    show (PySem.tupleText (PyData.shownAll (D.pyL ds))).length ≤ D.swL ds + 4
    omega
  | .dict _, h => by cases h
  | .dicT _, h => by cases h
  | .obj .., h => by cases h
  | .any, h => by cases h
  | .tag _ _, h => by cases h
theorem shownL_le : ∀ ds : List D, D.inBL ds = true → PySem.piled (PyData.shownAll (D.pyL ds)) ≤ D.swL ds
  | [], _ => Nat.le_refl _
  | d :: ds, h => by
    have h' : (d.inB && D.inBL ds) = true := h
    rw [Bool.and_eq_true_iff] at h'
    have h1 := shown_le d h'.1
    have h2 := shownL_le ds h'.2
    show PySem.piled (d.py.shown :: PyData.shownAll (D.pyL ds)) ≤ d.sw + 2 + D.swL ds
    rw [PySem.piled_cons]
    omega
end
mutual
theorem inB_flat : ∀ d : D, d.inB = true → d.flat = true
  | .none, _ => rfl
  | .bool _, _ => rfl
  | .int _, _ => rfl
  | .str _, _ => rfl
  | .list ds, h => inBL_flat ds h
  | .tuple ds, h => inBL_flat ds h
  | .dict _, h => by cases h
  | .dicT _, h => by cases h
  | .obj .., h => by cases h
  | .any, h => by cases h
  | .tag _ _, h => by cases h
theorem inBL_flat : ∀ ds : List D, D.inBL ds = true → D.flatL ds = true
  | [], _ => rfl
  | d :: ds, h => by
    have h' : (d.inB && D.inBL ds) = true := h
    rw [Bool.and_eq_true_iff] at h'
    show (d.flat && D.flatL ds) = true
    rw [inB_flat d h'.1, inBL_flat ds h'.2]
    rfl
end
mutual
theorem inB_showable : ∀ d : D, d.inB = true → d.py.showable = true
  | .none, _ => rfl
  | .bool _, _ => rfl
  | .int i, h => by
    have h' := of_decide_eq_true h
    refine decide_eq_true ?_
    by_cases z : i.natAbs = 0
    · rw [z]
      decide
    · exact Nat.lt_of_lt_of_le ((Nat.log2_lt z).mpr h') (by decide)
  | .str _, _ => rfl
  | .list ds, h => inBL_showable ds h
  | .tuple ds, h => inBL_showable ds h
  | .dict _, h => by cases h
  | .dicT _, h => by cases h
  | .obj .., h => by cases h
  | .any, h => by cases h
  | .tag _ _, h => by cases h
theorem inBL_showable : ∀ ds : List D, D.inBL ds = true → PyData.showableAll (D.pyL ds) = true
  | [], _ => rfl
  | d :: ds, h => by
    have h' : (d.inB && D.inBL ds) = true := h
    rw [Bool.and_eq_true_iff] at h'
    show (d.py.showable && PyData.showableAll (D.pyL ds)) = true
    rw [inB_showable d h'.1, inBL_showable ds h'.2]
    rfl
end
theorem okR_of {d : D} (h : d.inB = true) (hd : d.py.depth ≤ 60) (hs : d.sw ≤ 1000000) : okR d = true := by
  unfold okR
  rw [inB_flat d h, inB_showable d h, decide_eq_true hd, decide_eq_true (Nat.le_trans (shown_le d h) hs)]
  rfl
end FL

/-! What the laws' helpers give: one of some, an order; loops and rows under wp. -/
namespace FL
open PySem PySem.Spec
section
variable {f g : FS} {δ : Sl} {n : Nat} {Q : Out → Nat → Prop} {Z : Xn × Sl → Nat → Prop}
theorem seq_to (P : Nat → Sl → Prop) (h : (f δ).wp n (fun o n' => ∃ δ', o = .nx δ' ∧ P n' δ') Z) (k : ∀ n' δ', P n' δ' → (g δ').wp n' Q Z) : (sSeq f g δ).wp n Q Z :=
  (T.wp_bind _ _).mpr (T.wp_mono (fun o n' ⟨δ', e, p⟩ => by rw [e]; exact k n' δ' p) (fun _ _ z => z) _ _ h)
theorem seq_ret {δ' : Sl} (h : f δ = .ret (.nx δ')) (k : (g δ').wp n Q Z) : (sSeq f g δ).wp n Q Z := by
  show ((f δ).bind (oSeq g)).wp n Q Z
  rw [h]
  exact k
theorem loop_wp {tg : Tg} {b : FS} (J : Nat) (I : Nat → Nat → Sl → Prop) (hs : ∀ j n δ (x : D), j < J → I j n δ → ∃ δ1, putT tg δ x = some δ1 ∧ (b δ1).wp n (fun o n' => ∃ δ', o = .nx δ' ∧ I (j + 1) n' δ') Z) :
    ∀ (xs : List D) (j n : Nat) (δ : Sl), j + xs.length = J → I j n δ → (∀ n' δ', I J n' δ' → Q (.nx δ') n') → (loopL tg b xs δ).wp n Q Z
  | [], j, n, δ, hj, h, k => k n δ (by rw [← hj]; exact h)
  | x :: xs, j, n, δ, hj, h, k => by
    obtain ⟨δ1, e, h1⟩ := hs j n δ x (by rw [← hj, List.length_cons]; omega) h
    rw [loopL_cons, e, T.of_some, T.ret_bind]
    refine (T.wp_bind _ _).mpr (T.wp_mono (fun o n' ⟨δ', eo, p⟩ => ?_) (fun _ _ z => z) _ _ h1)
    rw [eo]
    exact loop_wp J I hs xs (j + 1) n' δ' (by rw [← hj, List.length_cons]; omega) p k
end
theorem dPow_i (i j : Int) : dPow (.int i) (.int j) = if 0 ≤ j ∧ j ≤ 1000000 ∧ i.natAbs < 2 ^ 64 then some (.int (i ^ j.toNat)) else none := rfl
theorem pow10_6 : dPow (.int 10) (.int 6) = some (.int 1000000) := by
  rw [dPow_i, if_pos ⟨by decide, by decide, by decide⟩, show (10 : Int) ^ Int.toNat 6 = 1000000 by decide +kernel]
theorem pow10_9 : dPow (.int 10) (.int 9) = some (.int 1000000000) := by
  rw [dPow_i, if_pos ⟨by decide, by decide, by decide⟩, show (10 : Int) ^ Int.toNat 9 = 1000000000 by decide +kernel]
theorem pow10_30 : dPow (.int 10) (.int 30) = some (.int 1000000000000000000000000000000) := by
  rw [dPow_i, if_pos ⟨by decide, by decide, by decide⟩, show (10 : Int) ^ Int.toNat 30 = 1000000000000000000000000000000 by decide +kernel]
theorem pow10_40 : dPow (.int 10) (.int 40) = some (.int 10000000000000000000000000000000000000000) := by
  rw [dPow_i, if_pos ⟨by decide, by decide, by decide⟩, show (10 : Int) ^ Int.toNat 40 = 10000000000000000000000000000000000000000 by decide +kernel]
theorem draw_wp {ε α : Type} {m : Int} {k : Int → T ε α} {n : Nat} {Q : α → Nat → Prop} {Z : ε → Nat → Prop} (h1 : 0 < m) (h2 : m < 1073741824) (h3 : n ≤ 1048576) (h : ∀ v : Int, 0 ≤ v → v < m → (k v).wp (n + 1) Q Z) : (T.draw m k).wp n Q Z :=
  ⟨h2, h3, fun v a b => h v a (by omega)⟩
def f_one : FFn := mk 2 2 (sRet (fOp dIx (fVar 1) (fCall gDraw (fCons (fVar 0) (fCons (fCB rDicts (fCons (fVar 1) fNil)) fNil)))))
theorem one_wp {xs : List D} {n : Nat} {Q : D → Nat → Prop} {Z : Xn → Nat → Prop} (h0 : 0 < xs.length) (hl : xs.length ≤ 1000000) (hn : n ≤ 1048576) (k : ∀ x ∈ xs, Q x (n + 1)) : (f_one [.wl, .d (.list xs)]).wp n Q Z := by
  simp [f_one]
  refine ⟨by omega, hn, fun v v0 v1 => ?_⟩
  obtain ⟨j, rfl⟩ : ∃ j : Nat, v = (j : Int) := ⟨v.toNat, by omega⟩
  have hj : j < xs.length := by omega
  dsimp only
  rw [atI_nn, List.getElem?_eq_getElem hj]
  simp
  exact k _ (List.getElem_mem hj)
/-- a lambda's taker, its own reckoning -/
theorem lam_wp {fl : FE} {L : Nat} {b : R D → FS} {δ : Sl} {n : Nat} {Q : W → Nat → Prop} {Z : Xn → Nat → Prop} (h : (b ((fl (forget δ)).bind W.dat) (startL L [.fn])).wp n (fun o n' => ∃ d, o = .rt d ∧ Q (.d d) n') (fun _ _ => False)) : (fLam fl L b δ).wp n Q Z := by
  unfold fLam
  rw [T.wp_bind, T.wp_bind, T.wp_noex]
  refine T.wp_mono (fun o n' ⟨d, e, q⟩ => ?_) (fun _ _ z => z) _ _ h
  rw [e]
  exact q
/-- try: return [ask()] -/
theorem try_wp {l : R D} {hs : List Hd} {n : Nat} {Q : Out → Nat → Prop} (h : l.wp n (fun d n' => Q (.rt (.list [d])) n') (fun x n' => (hand hs (x, [some (.v .fn), none])).wp n' Q (fun _ _ => False))) : (sTry (sRet (fSeq .list (fCons (fAsk l) fNil))) hs [some (.v .fn), none]).wp n Q (fun _ _ => False) := by
  rw [sTry_def, T.wp_catch]
  simp only [sRet_def, fSeq_def, fCons_def, fAsk, List.getElem?_cons_zero, fNil_def, lft_def, T.wp_bind, T.wp_mapEx]
  refine T.wp_mono (fun d n' q => ?_) (fun _ _ z => z) _ _ h
  simpa using q
theorem forget_cons (s : Option S) (δ : Sl) : forget (s :: δ) = (match s with
  | some (S.own _) => none
  | some (S.v (.xc _)) => none
  | some (S.v .fn) => none
  | some (S.v (.al _)) => none
  | s => s) :: forget δ := rfl
@[simp] theorem forget_nil : forget [] = [] := rfl
@[simp] theorem forget_d (x : D) (δ : Sl) : forget (some (S.v (.d x)) :: δ) = some (S.v (.d x)) :: forget δ := rfl
@[simp] theorem forget_wl (δ : Sl) : forget (some (S.v .wl) :: δ) = some (S.v .wl) :: forget δ := rfl
@[simp] theorem forget_none (δ : Sl) : forget (none :: δ) = none :: forget δ := rfl
@[simp] theorem forget_own (x : D) (δ : Sl) : forget (some (S.own x) :: δ) = none :: forget δ := rfl
@[irreducible] def Wp {ε α : Type} (t : T ε α) (n : Nat) (Q : α → Nat → Prop) (Z : ε → Nat → Prop) : Prop := t.wp n Q Z
theorem Wp_eq {ε α : Type} (t : T ε α) (n : Nat) (Q : α → Nat → Prop) (Z : ε → Nat → Prop) : Wp t n Q Z = t.wp n Q Z := by
  unfold Wp
  rfl
theorem hp_ret {f g : FS} {δ δ' : Sl} {n : Nat} {Q : Out → Nat → Prop} {Z : Xn × Sl → Nat → Prop} (e : f δ = .ret (.nx δ')) : Wp (sSeq f g δ) n Q Z = Wp (g δ') n Q Z := by
  rw [sSeq_def, e, T.ret_bind, oSeq_nx]
theorem hp_wp {f g : FS} {δ : Sl} {n : Nat} {Q : Out → Nat → Prop} {Z : Xn × Sl → Nat → Prop} : Wp (sSeq f g δ) n Q Z = Wp (f δ) n (fun o m => Wp (oSeq g o) m Q Z) Z := by
  rw [Wp_eq, Wp_eq, sSeq_def, T.wp_bind]
  simp only [Wp_eq]
theorem hp_frz {i n : Nat} {δ : Sl} {l : List D} {f : FS} {Q : Out → Nat → Prop} {Z : Xn × Sl → Nat → Prop} (h : δ[i]? = some (some (.own (.list l)))) (k : Wp (f (δ.set i (some (.v (.d (.list l)))))) n Q Z) : Wp (sFrz i f δ) n Q Z := by
  rw [sFrz_def, h]
  exact k
end FL

/-! Own classes: attributes, methods, instances made. -/
namespace FL
open PySem PySem.Spec PyProof.Rows L2 Gd Fx Stp LamX Lm
/-! ### attributes -/
section
variable {K : Kx} {G : Hp}
theorem lk_cons {α : Type} {f g : Str} {a : α} {r : List (Str × α)} : ((g, a) :: r).lookup f = if f = g then some a else r.lookup f := by
  by_cases z : f = g
  · subst z
    rw [if_pos rfl, List.lookup, beq_self_eq_true]
  · have z' : (f == g) = false := by simpa using z
    rw [if_neg z, List.lookup, z']
theorem DVf.look : ∀ {fs : List (Str × V)} {gs : List (Str × D)} {f : Str} {d : D}, DVf K G fs gs → gs.lookup f = some d → ∃ v, fs.lookup f = some v ∧ DV K G v d
  | _, _, f, d, .nil, e => by cases e
  | (g, v) :: fs, (_, d0) :: gs, f, d, .cons h t, e => by
    rw [lk_cons] at e ⊢
    by_cases z : f = g
    · rw [if_pos z] at e ⊢
      cases e
      exact ⟨v, rfl, h⟩
    · rw [if_neg z] at e ⊢
      exact t.look e
theorem DVf.lacks : ∀ {fs : List (Str × V)} {gs : List (Str × D)} {f : Str}, DVf K G fs gs → gs.lookup f = none → fs.lookup f = none
  | _, _, f, .nil, e => rfl
  | (g, v) :: fs, (_, d0) :: gs, f, .cons h t, e => by
    rw [lk_cons] at e ⊢
    by_cases z : f = g
    · rw [if_pos z] at e
      cases e
    · rw [if_neg z] at e ⊢
      exact t.lacks e
def putD (f : Str) (v : D) : List (Str × D) → List (Str × D)
  | [] => [(f, v)]
  | (g, x) :: r => if g = f then (g, v) :: r else (g, x) :: putD f v r
theorem DVf.put {f : Str} {v : V} {d : D} (h : DV K G v d) : ∀ {fs : List (Str × V)} {gs : List (Str × D)}, DVf K G fs gs → DVf K G (putF f v fs) (putD f d gs)
  | _, _, .nil => .cons h .nil
  | (g, x) :: fs, (_, y) :: gs, .cons hx t => by
    unfold putF putD
    by_cases z : g = f
    · rw [if_pos z, if_pos z]
      exact .cons h t
    · rw [if_neg z, if_neg z]
      exact .cons hx (DVf.put h t)
theorem DVf.length : ∀ {fs : List (Str × V)} {gs : List (Str × D)}, DVf K G fs gs → fs.length = gs.length
  | _, _, .nil => rfl
  | _, _, .cons _ t => congrArg (· + 1) t.length
end
/-- f is an attribute of the instances of these classes, of no class -/
def AtF (K : Kx) (cs : List Nat) (f : Str) : Prop := ∀ c ∈ cs, Cls K.K (K.ct c) ∧ NoAttr K.K (K.ct c) f
def fldOf (cs : List Nat) (f : Str) : D → Option D
  | .obj c fs => if c ∈ cs then fs.lookup f else none
  | _ => none
def fAt (cs : List Nat) (f : Str) (fe : FE) : FE := fun δ => (fe δ).bind fun w => w.rd.bind fun x => (T.of (fldOf cs f x)).bind fun d => .ret (.d d)
@[simp] theorem fldOf_obj (cs : List Nat) (f : Str) (c : Nat) (fs : List (Str × D)) : fldOf cs f (.obj c fs) = if c ∈ cs then fs.lookup f else none := rfl
@[simp] theorem fAt_def (cs : List Nat) (f : Str) (fe : FE) (δ : Sl) : fAt cs f fe δ = (fe δ).bind fun w => w.rd.bind fun x => (T.of (fldOf cs f x)).bind fun d => .ret (.d d) := rfl
section
variable {X : Cx} {F : Fc} {cs : List Nat} {f : Str} {e : Expr} {fe : FE} {i : Nat} {x : Str} {pos : Pos}
theorem pf_at (A : AtF F.K cs f) (he : PF X F e fe) (hK : X.K = F.K.K := by rfl) (hb : attributeBase e f X.env (eval e X.env) = eval e X.env := by rfl) : PF X F (.Attribute e f pos) (fAt cs f fe) :=
  ⟨fun Z tk => pe_to (pe_fld (he.pe Z tk) hb) fun σ H Q ⟨M, δ, n, ok, q⟩ => goE ok ((T.wp_bind _ _).mp q) fun w n1 v H1 q1 s1 ok1 v1 => by
    obtain ⟨y, hy, q2⟩ := rv_rd v1 ((T.wp_bind _ _).mp q1)
    obtain ⟨d, ed, q3⟩ := T.wp_of.mp ((T.wp_bind _ _).mp q2)
    match y, hy, ed with
    | .obj c gs, hy, ed =>
      rw [fldOf_obj] at ed
      obtain ⟨hc, ed⟩ := iteSome' ed
      obtain ⟨a, dx, fs, rfl, e1, e2⟩ := hy.obj
      obtain ⟨u, e3, e4⟩ := e2.look ed
      rw [hK]
      exact ⟨a, _, dx, fs, u, rfl, e1, (A c hc).1, (A c hc).2, e3, q3 u H1 s1 ok1 e4⟩⟩
where
  iteSome' {α : Type} {c : Prop} [Decidable c] {a : Option α} {b : α} (h : (if c then a else none) = some b) : c ∧ a = some b := by
    by_cases z : c
    · rw [if_pos z] at h
      exact ⟨z, h⟩
    · rw [if_neg z] at h
      cases h
/-- an instance of one's own, that is being made -/
def objAt (δ : Sl) (i : Nat) : R (Nat × List (Str × D)) := match δ[i]? with
  | some (some (.own (.obj c fs))) => .ret (c, fs)
  | _ => .bad
theorem objAt_wp {δ : Sl} {n : Nat} {Q : Nat × List (Str × D) → Nat → Prop} {Z' : Xn × Sl → Nat → Prop} (q : (lft δ (objAt δ i)).wp n Q Z') : ∃ c fs, δ[i]? = some (some (.own (.obj c fs))) ∧ Q (c, fs) n := by
  have q' := (T.wp_mapEx _ _).mp q
  unfold objAt at q'
  split at q'
  · rename_i c fs e
    exact ⟨c, fs, e, q'⟩
  · exact q'.elim
theorem own_obj {M : List Addr} {σ : L2.St} {H : Hp} {δ : Sl} {n c : Nat} {gs : List (Str × D)} (ok : Ok F M σ H δ n) (e : δ[i]? = some (some (.own (.obj c gs)))) : ∃ p dx fs, σ[i]? = some (some (V.ref p)) ∧ p ∈ M ∧ (∃ q, F.slf = some q ∧ p = q.1) ∧ (∀ q, F.wl = some q → p ≠ q.1) ∧ H p = some (.ins (F.K.ct c) dx fs) ∧ DVf F.K (hid M H) fs gs := by
  obtain ⟨p, o, b1, b2, b3, b4, b5, b6⟩ := ok.own i _ e
  have b3' : ∃ q, F.slf = some q ∧ p = q.1 := b3.elim (fun z => by cases z.2.1) fun ⟨q, a, b, _⟩ => ⟨q, a, b⟩
  cases b5 with
  | obj h =>
    exact ⟨p, _, _, b1, b2, b3', fun q eq z => by
      obtain ⟨s, es, z2⟩ := b3'
      exact (ok.sw s es).2 q eq (z.symm.trans z2), b4, h⟩
def sAt (cs : List Nat) (f : Str) (i : Nat) (fe : FE) : FS := fun δ => (lft δ (fe δ)).bind fun w => (lft δ w.dat).bind fun d => (lft δ (objAt δ i)).bind fun o => if o.1 ∈ cs ∧ o.2.length < 1000 then .ret (.nx (δ.set i (some (S.own (.obj o.1 (putD f d o.2)))))) else .bad
theorem pfs_at {np pos' : Pos} (A : AtF F.K cs f) (hv : PE X (.Name x np) (tVar i)) (he : PF X F e fe) (hK : X.K = F.K.K := by rfl) (hs : swapsWith e (some (.Attribute (.Name x np) f pos')) pos.line X.env = pure false := by rfl) : PFS X F (.Assign [.Attribute (.Name x np) f pos'] e pos) (sAt cs f i fe) :=
  ⟨fun Z tk => ps_to (ps_fld hv (he.pe Z tk) hs) fun D σ H ⟨M, δ, n, ok, q⟩ => lftE ok ((T.wp_bind _ _).mp q) fun w n1 v H1 q1 s1 ok1 v1 => by
    obtain ⟨d, rfl, hd, q2⟩ := lft_dat v1 ((T.wp_bind _ _).mp q1)
    obtain ⟨c, gs, e0, q3⟩ := objAt_wp ((T.wp_bind _ _).mp q2)
    obtain ⟨⟨hc, hl⟩, q4⟩ := wp_if q3
    obtain ⟨p, dx, fs, b1, b2, _, b3, b4, b5⟩ := own_obj ok1 e0
    rw [hK]
    exact ⟨_, b1, p, _, dx, fs, rfl, b4, (A c hc).1, (A c hc).2, by rw [b5.length]; exact hl, q4 M σ _ (ok1.write e0 b1 b4 (.obj (b5.put hd)) (fun C dx' fs' z => ⟨_, _, by cases z; rfl⟩) rfl)⟩⟩
end
@[simp] theorem objAt_def (δ : Sl) (i : Nat) : objAt δ i = (match δ[i]? with
  | some (some (.own (.obj c fs))) => .ret (c, fs)
  | _ => .bad) := rfl
@[simp] theorem sAt_def (cs : List Nat) (f : Str) (i : Nat) (fe : FE) (δ : Sl) : sAt cs f i fe δ = (lft δ (fe δ)).bind fun w => (lft δ w.dat).bind fun d => (lft δ (objAt δ i)).bind fun o => if o.1 ∈ cs ∧ o.2.length < 1000 then .ret (.nx (δ.set i (some (S.own (.obj o.1 (putD f d o.2)))))) else .bad := rfl
end FL

/-! Calls by a plan (place, keyword, default); methods; instances made. -/
namespace FL
open PySem PySem.Spec PyProof.Rows L2 Gd Fx Stp LamX Lm
/-- where a parameter's value comes from: the i-th of what is written (places, then keywords), or a default -/
inductive Pl where
  | arg (i : Nat)
  | dft (u : Value) (v : V) (d : D)
def Pl.up : Pl → Pl
  | .arg i => .arg (i + 1)
  | .dft u v d => .dft u v d
def Pl.v (vs : List V) : Pl → V
  | .arg i => vs.getD i .non
  | .dft _ v _ => v
def Pl.u (us : List Value) : Pl → Value
  | .arg i => us.getD i .none
  | .dft u _ _ => u
def Pl.w (ws : List W) : Pl → W
  | .arg i => ws.getD i (.d .none)
  | .dft _ _ d => .d d
def planV (pl : List Pl) (vs : List V) : List V := pl.map (Pl.v vs)
def planU (pl : List Pl) (us : List Value) : List Value := pl.map (Pl.u us)
def planW (pl : List Pl) (ws : List W) : List W := pl.map (Pl.w ws)
/-- defaults are what they are told to be -/
def PlOk (K : Kx) (pl : List Pl) : Prop := ∀ p ∈ pl, match p with
  | .arg _ => True
  | .dft u v d => RelV v u ∧ ∀ G, DV K G v d
theorem plan_vals {K : Kx} {pl : List Pl} (h : PlOk K pl) {vs : List V} {us : List Value} (r : Vals vs us) : Vals (planV pl vs) (planU pl us) := by
  induction pl with
  | nil => exact .nil
  | cons p pl ih =>
    refine .cons ?_ (ih fun q hq => h q (List.mem_cons_of_mem _ hq))
    have hp := h p (List.mem_cons_self ..)
    cases p with
    | arg i => exact getD_vals r i
    | dft u v d => exact hp.1
theorem plan_voks {F : Fc} {pl : List Pl} (h : PlOk F.K pl) {M : List Addr} {H : Hp} {vs : List V} {ws : List W} (r : VOks F M H vs ws) : VOks F M H (planV pl vs) (planW pl ws) := by
  induction pl with
  | nil => exact .nil
  | cons p pl ih =>
    refine .cons ?_ (ih fun q hq => h q (List.mem_cons_of_mem _ hq))
    have hp := h p (List.mem_cons_self ..)
    cases p with
    | arg i => exact getD_voks r i
    | dft u v d => exact hp.2 _
theorem plan_up {x : V} {pl : List Pl} {vs : List V} : planV (.arg 0 :: pl.map Pl.up) (x :: vs) = x :: planV pl vs := by
  unfold planV
  rw [List.map_cons, List.map_map]
  refine congrArg (x :: ·) (List.map_congr_left fun p _ => ?_)
  cases p with
  | arg i => rfl
  | dft u v d => rfl
structure BindP (K : PySem.W.Frag) (fd : FuncData) (ps : List Str) (n : Nat) (ks : List Str) (pl : List Pl) : Prop where
  to : ∀ (s : Shared) (us ws : List Value), K.In s.heap → us.length = n → ws.length = ks.length → BindsTo s fd ⟨us, ks.zip ws⟩ (ps.zip (planU pl (us ++ ws)))
section
variable {X : Cx} {CX : CXT} {F : Fc} {k n : Nat} {f C : Addr} {fd : FuncData} {ps ks : List Str} {sp : Sp} {E : XK} {pins : List (Addr × Obj)} {σ : L2.St} {H : Hp} {s : Shared} {Q : VK} {us ws : List Value} {vs zs : List V} {pl : List Pl}
theorem run_fnP {K : Kx} (FG : FnG X.prog X.w X.K X.mg X.base CX k f fd ps sp) (hr : RoomG k X.A) (hb : BindP X.K fd ps n ks pl) (hp : PlOk K pl) (hx : PassesAt CX X σ E) (I : Inv X pins σ H s) (r : Vals vs us) (rz : Vals zs ws) (l1 : vs.length = n) (l2 : zs.length = ks.length)
    (h : sp (planV pl (vs ++ zs)) H Q E) : wpAny (model X.prog X.w) X.A (call (.ref f) us (ks.zip ws)) (EP X pins σ Q) X.xe s := by
  have e1 : us.length = n := by rw [← l1, r.length]
  have e2 : ws.length = ks.length := by rw [← l2, rz.length]
  refine wpAny_call (codeAny_mono (FG.run X.A X.stack s H ⟨us, ks.zip ws⟩ (planU pl (us ++ ws)) (planV pl (vs ++ zs)) Q E hr I.env0 (hb.to s us ws I.kIn e1 e2) (plan_vals hp (r.append rz)) h) fun z s2 hz => ?_)
  cases z with
  | error e => exact hx pins H s e s2 I hz
  | ok fl => cases fl <;> first | exact I.after hz | exact hz.elim
theorem run_makeP {K : Kx} (M : Mk X.K C f) (FG : FnG X.prog X.w X.K X.mg X.base CX k f fd ps sp) (hr : RoomG (k + 1) X.A) (hb : BindP X.K fd ps (n + 1) ks pl) (hp : PlOk K pl) (hx : PassesAt CX X σ E) (I : Inv X pins σ H s) (r : Vals vs us) (rz : Vals zs ws) (l1 : vs.length = n) (l2 : zs.length = ks.length)
    (h : ∀ x dx, H x = none → H dx = none → dx ≠ x → sp (planV pl (.ref x :: (vs ++ zs))) (upd (upd H dx (.own x)) x (.ins C dx [])) (fun v H2 => v = .non ∧ Q (.ref x) H2) E) :
    wpAny (model X.prog X.w) X.A (call (.ref C) us (ks.zip ws)) (EP X pins σ Q) X.xe s := by
  obtain ⟨N, hN⟩ : ∃ N, N = s.heap.objs.size := ⟨_, rfl⟩
  have hq := h (N + 1) N (I.hok.fresh (by rw [hN]; exact Nat.le_succ _)) (I.hok.fresh (by rw [hN]; exact Nat.le_refl _)) (show N ≠ N + 1 by omega)
  have J := Inv.made (C := C) I
  rw [← hN] at J
  have e1 : (Value.ref (N + 1) :: us).length = n + 1 := by rw [List.length_cons, ← l1, r.length]
  have e2 : ws.length = ks.length := by rw [← l2, rz.length]
  have r2 : Vals (V.ref (N + 1) :: (vs ++ zs)) (Value.ref (N + 1) :: (us ++ ws)) := .cons rfl (r.append rz)
  have R : RoomG k (X.A.under (.builtin "type.__call__" ⟨.ref C :: us, ks.zip ws⟩)) := ⟨hr.toRoom.make C us (ks.zip ws), hr.gd⟩
  refine wpAny_call (make_map I.kIn M.makes M.init (beq_iff_eq.mp M.fn) ?_)
  rw [← hN]
  refine codeAny_mono (FG.run _ X.stack _ _ ⟨Value.ref (N + 1) :: us, ks.zip ws⟩ (planU pl (Value.ref (N + 1) :: us ++ ws)) _ _ E R (J.env0.make C us (ks.zip ws)) (hb.to _ (Value.ref (N + 1) :: us) ws J.kIn e1 e2) (plan_vals hp r2) hq) fun z s2 hz => ?_
  cases z with
  | error e => exact hx pins _ _ e s2 J hz
  | ok fl =>
    cases fl with
    | ret u =>
      obtain ⟨v, H2, J2, rv, ev, q3⟩ := J.after hz
      subst ev
      exact ⟨rv, V.ref (N + 1), H2, J2, rfl, q3⟩
    | next => exact hz.elim
    | brk => exact hz.elim
    | cont => exact hz.elim
end
/-! ### an __init__ -/
structure EntI (F : Fc) (n c : Nat) (x dx : Addr) (vs : List V) (ws : List W) : Prop where
  arg : VOks F F.M0 F.H0 vs ws
  ok : ws.all W.arg = true
  al : ∀ p ∈ F.M0, ∃ o, F.H0 p = some o
  wel : ∀ p, F.wl = some p → p.1 ∈ F.M0 ∧ WlAt (hid F.M0 F.H0) F.H0 n p
  noa : F.anc = []
  slf : F.slf = some (x, dx)
  ix : F.H0 x = some (.ins (F.K.ct c) dx [])
  id : F.H0 dx = some (.own x)
  mx : x ∈ F.M0
  md : dx ∈ F.M0
  ne : x ≠ dx
  nw : ∀ p, F.wl = some p → p.1 ≠ x
  tab : LamX.Tabs F.tb F.H0 ∧ ∀ p ∈ F.tb, p.1 ∈ F.M0
def startI (L c : Nat) (ws : List W) : Sl := some (S.own (.obj c [])) :: startL (L - 1) ws
theorem EntI.start {F : Fc} {n c : Nat} {x dx : Addr} {vs : List V} {ws : List W} {N : List Str} (h : EntI F n c x dx vs ws) (hN : ws.length + 1 ≤ N.length) : Ok F F.M0 (start N (.ref x :: vs)) F.H0 (startI N.length c ws) n := by
  have hlen := h.arg.length
  have own0 : ∀ (i : Nat) (y : D), (startI N.length c ws)[i]? = some (some (S.own y)) → i = 0 ∧ y = .obj c [] := fun i y e => by
    cases i with
    | zero => cases e; exact ⟨rfl, rfl⟩
    | succ i =>
      obtain ⟨w', e1, e2⟩ := startL_at (show (startL (N.length - 1) ws)[i]? = some (some (S.own y)) from e)
      cases e2
  have val0 : ∀ (i : Nat) (w : W), (startI N.length c ws)[i]? = some (some (S.v w)) → ∃ j, i = j + 1 ∧ ws[j]? = some w := fun i w e => by
    cases i with
    | zero => cases e
    | succ i =>
      obtain ⟨w', e1, e2⟩ := startL_at (show (startL (N.length - 1) ws)[i]? = some (some (S.v w)) from e)
      cases e2
      exact ⟨i, rfl, e1⟩
  refine { len := ?_, val := fun i w e => ?_, own := fun i y e => ?_, dis := fun i j y z p e1 e2 _ _ => ?_, nol := fun i y e => ?_, sub := fun p hp => hp, new := fun p hp => .inl hp, al := h.al, ext := Same.refl _, frm := fun p _ _ o _ e => e, tab := h.tab, wel := h.wel, anc := fun A hA => (by rw [h.noa] at hA; cases hA), sw := fun q e => ?_ }
  · unfold L2.start startI startL
    simp only [List.length_append, List.length_map, List.length_replicate, List.length_cons]
    omega
  · obtain ⟨j, rfl, e1⟩ := val0 i w e
    obtain ⟨v, e3, e4⟩ := h.arg.at_ e1
    refine ⟨v, ?_, e4⟩
    unfold L2.start
    have hi : j < vs.length := (List.getElem?_eq_some_iff.mp e3).1
    rw [List.getElem?_append_left (by rw [List.length_map, List.length_cons]; omega), List.getElem?_map, List.getElem?_cons_succ, e3]
    rfl
  · obtain ⟨rfl, rfl⟩ := own0 i y e
    refine ⟨x, _, ?_, h.mx, .inr ⟨_, h.slf, rfl, rfl⟩, h.ix, .obj .nil, fun C d2 fs z => ?_⟩
    · unfold L2.start
      rfl
    · cases z
      exact ⟨h.md, h.id, .inr ⟨_, h.slf, rfl⟩⟩
  · exact (own0 i y e1).1.trans (own0 j z e2).1.symm
  · obtain ⟨j, rfl, e1⟩ := val0 i _ e
    have := List.all_eq_true.mp h.ok _ (List.mem_of_getElem? e1)
    cases this
  · rw [h.slf] at e
    cases e
    exact ⟨⟨h.mx, h.md, h.ne, h.id⟩, h.nw⟩
/-- what an __init__ promises -/
def spI (K : Kx) (c : Nat) (g : FFn) : Sp := fun vs H Q E => ∃ (F : Fc) (n : Nat) (ws : List W) (x dx : Addr) (us : List V), vs = .ref x :: us ∧ F.K = K ∧ F.H0 = H ∧ EntI F n c x dx us ws ∧
  (g ws).wp n (fun d n' => ∀ H', RetB F H' n' → (∀ M1 : List Addr, (∀ p ∈ M1, p ∈ F.M0) → x ∉ M1 → DV K (hid M1 H') (.ref x) d) → Q .non H') (fun xx n' => ∀ cls d M σ H' δ, Ok F M σ H' δ n' → XnOk K (hid M H') cls d xx → E cls d H')
def selfOf (δ : Sl) : R D := match δ[(0 : Nat)]? with
  | some (some (.own (.obj c fs))) => .ret (.obj c fs)
  | _ => .bad
def finI : Out → R D
  | .nx δ => selfOf δ
  | _ => .bad
/-- an __init__: L slots, m parameters behind self -/
def mkI (L m c : Nat) (f : FS) : FFn := fun ws => if ws.length = m then ((f (startI L c ws)).mapEx Prod.fst).bind finI else .bad
section
variable {P : Program} {w : World} {K : Kx} {mg : Str → Option Value} {base : Heap} {k c : Nat} {f : Addr} {fd : FuncData} {ps : List Str} {x qual : Str} {st : Stmt} {N : List Str} {fb : FS}
theorem finI_wp {o : Out} {n : Nat} {Q : D → Nat → Prop} {Z : Xn → Nat → Prop} (h : (finI o).wp n Q Z) : ∃ δ c fs, o = .nx δ ∧ δ[0]? = some (some (.own (.obj c fs))) ∧ Q (.obj c fs) n := by
  match o, h with
  | .nx δ, h =>
    have h' : (selfOf δ).wp n Q Z := h
    unfold selfOf at h'
    split at h'
    · rename_i c fs e
      exact ⟨δ, c, fs, rfl, e, h'⟩
    · exact h'.elim
theorem okI (FU : Fun K.K x qual st f fd) (S : FnScope N ps (defScope st)) (hps : ps.length ≤ N.length)
    (hbody : ∀ (cdv : Value) (A : Around) (outer : List Env) (s : Shared) (H : Hp) (E : XK) (F : Fc), F.K = K → RoomG k (A.deeper (envOfC qual (defScope st) s.heap.objs.size f cdv)) →
      PFB (cxOf (L2.CX P w) P w K.K mg base N qual (defScope st) f cdv A outer s H E) F (defBody st) fb) (h0 : 0 < ps.length) :
    FnG P w K.K mg base (L2.CX P w) (k + 1) f fd ps (spI K c (mkI N.length (ps.length - 1) c fb)) := by
  refine okGX FU S (fun vs H Q E ⟨F, n, ws, x, dx, us, e0, _, _, h, q⟩ => ?_) (fun cdv A outer s H vs Q E hr ⟨F, n, ws, x, dx, us, e0, e1, e2, h, q⟩ => ?_)
  · rw [e0, List.length_cons, h.arg.length]
    have := (wp_if q).1
    omega
  · obtain ⟨hl, q⟩ := wp_if q
    subst e0
    have tk : Lk (cxOf (L2.CX P w) P w K.K mg base N qual (defScope st) f cdv A outer s H E) F (fun x n' _ => ∀ cls d M σ H' δ, Ok F M σ H' δ n' → XnOk K (hid M H') cls d x → E cls d H') :=
      (takes_of (X := cxOf (L2.CX P w) P w K.K mg base N qual (defScope st) f cdv A outer s H E) rfl rfl rfl rfl).imp fun cls d σ H' ⟨M, δ, n', x, ok, hx, z⟩ => z cls d M σ H' δ ok (by rw [e1] at hx; exact hx)
    refine ⟨_, (hbody cdv A outer s H E F e1 hr).ps _ tk, ?_⟩
    rw [← e2]
    refine ⟨_, _, n, h.start (by omega), T.wp_mono (fun o n' q2 => ?_) (fun _ _ z => z) _ _ ((T.wp_mapEx _ _).mp ((T.wp_bind _ _).mp q))⟩
    obtain ⟨δ, c2, gs, rfl, e3, q3⟩ := finI_wp q2
    intro M σ H' ok
    obtain ⟨p, d2, fs, b1, b2, ⟨q, eq, b3⟩, _, b4, b5⟩ := own_obj ok e3
    rw [h.slf] at eq
    cases eq
    subst b3
    refine q3 H' ok.retB fun M1 hM hx => ?_
    rw [← e1]
    exact .obj (hid_mk hx b4) (b5.same (hid_sub fun z hz => ok.sub z (hM z hz)))
end
/-! ### made, by name -/
structure MkP (P : Program) (w : World) (K : Kx) (mg : Str → Option Value) (base : Heap) (k : Nat) (x : Str) (c n : Nat) (ks : List Str) (pl : List Pl) (g : FFn) : Prop where
  ex : ∃ (f : Addr) (fd : FuncData) (ps : List Str), FnG P w K.K mg base (L2.CX P w) k f fd ps (spI K c g) ∧ mg x = some (.ref (K.ct c)) ∧ Mk K.K (K.ct c) f ∧ BindP K.K fd ps (n + 1) ks (.arg 0 :: pl.map Pl.up) ∧ PlOk K pl
theorem PlOk.up {K : Kx} {pl : List Pl} (h : PlOk K pl) : PlOk K (.arg 0 :: pl.map Pl.up) := fun p hp => by
  rcases List.mem_cons.mp hp with rfl | hp
  · trivial
  · obtain ⟨q, hq, rfl⟩ := List.mem_map.mp hp
    have := h q hq
    cases q with
    | arg i => trivial
    | dft u v d => exact this
/-- n values by place, m by keywords -/
def fMake (n m : Nat) (pl : List Pl) (g : FFn) (fa fk : FA) : FE := fun δ => (fa δ).bind fun ws => (fk δ).bind fun zs => if ws.length = n ∧ zs.length = m ∧ (planW pl (ws ++ zs)).all W.arg = true then (g (planW pl (ws ++ zs))).bind fun d => .ret (.d d) else .bad
def fFun (n m : Nat) (pl : List Pl) (g : FFn) (fa fk : FA) : FE := fMake n m pl g fa fk
section
variable {F : Fc} {M : List Addr} {σ : L2.St} {H H1 H' : Hp} {δ : Sl} {n n1 c : Nat} {ws : List W} {vs : List V}
theorem make_sp {Z : ZF} {g : FFn} {Q : VK} {C : Addr} (hC : C = F.K.ct c) (s1 : Kp F M H H1) (ok1 : Ok F M σ H1 δ n1) (v1 : VOks F M H1 vs ws) (ha : ws.all W.arg = true)
    (q : (g ws).wp n1 (fun d n2 => ∀ v H', Kp F M H H' → Ok F M σ H' δ n2 → DV F.K (hid M H') v d → Q v H') (fun x n' => Z x n' δ)) {x dx : Addr} (hx : H1 x = none) (hd : H1 dx = none) (ne : dx ≠ x) :
    spI F.K c g (.ref x :: vs) (upd (upd H1 dx (.own x)) x (.ins C dx [])) (fun v H2 => v = .non ∧ Q (.ref x) H2) (fun cls d H => WZ F Z cls d σ H) := by
  subst hC
  obtain ⟨H2, hH2⟩ : ∃ H2, H2 = upd (upd H1 dx (.own x)) x (.ins (F.K.ct c) dx []) := ⟨_, rfl⟩
  have xM := ok1.fresh hx
  have dM := ok1.fresh hd
  have s12 : Same H1 H2 := fun b o e => by
    rw [hH2, upd_ne fun z => ?_, upd_ne fun z => ?_]
    · exact e
    · rw [z, hd] at e
      cases e
    · rw [z, hx] at e
      cases e
  let F2 : Fc := { K := F.K, M0 := x :: dx :: M, H0 := H2, wl := F.wl, tb := F.tb, slf := some (x, dx) }
  have sM : Same (hid M H1) (hid (x :: dx :: M) H2) := fun b o e => by
    obtain ⟨b1, b2⟩ := hid_some e
    refine hid_mk (fun z => ?_) (s12 b o b2)
    rcases List.mem_cons.mp z with rfl | z
    · rw [hx] at b2
      cases b2
    · rcases List.mem_cons.mp z with rfl | z
      · rw [hd] at b2
        cases b2
      · exact b1 z
  have vok : ∀ {vs : List V} {ws : List W}, VOks F M H1 vs ws → ws.all W.arg = true → VOks F2 (x :: dx :: M) H2 vs ws := fun {vs ws} h e => by
    induction h with
    | nil => exact .nil
    | @cons v vs w ws h t ih =>
      have e' : (w.arg && ws.all W.arg) = true := e
      rw [Bool.and_eq_true_iff] at e'
      refine .cons ?_ (ih e'.2)
      cases w with
      | d y => exact DV.same sM h
      | wl => exact h
      | ln y => cases e'.1
      | xc y => cases e'.1
      | fn => cases e'.1
      | al k => cases e'.1
  have wlne : ∀ p, F.wl = some p → p.1 ≠ x := fun p e z => xM (by rw [← z]; exact ok1.sub _ (ok1.wel p e).1)
  have ent : EntI F2 n1 c x dx vs ws := by
    refine ⟨vok v1 ha, ha, fun p hp => ?_, fun p e => ?_, rfl, rfl, ?_, ?_, List.mem_cons_self .., List.mem_cons_of_mem _ (List.mem_cons_self ..), fun z => ne z.symm, wlne, ?_, fun p hp => ?_⟩
    · rcases List.mem_cons.mp hp with rfl | hp
      · exact ⟨_, by show H2 p = _; rw [hH2]; exact upd_same⟩
      · rcases List.mem_cons.mp hp with rfl | hp
        · exact ⟨_, by show H2 p = _; rw [hH2, upd_ne ne]; exact upd_same⟩
        · obtain ⟨o, e⟩ := ok1.al p hp
          exact ⟨o, s12 _ _ e⟩
    · obtain ⟨h1, h2, h3, t, r, h4, h5⟩ := ok1.wel p e
      exact ⟨List.mem_cons_of_mem _ (List.mem_cons_of_mem _ (ok1.sub _ h1)), h2, sM _ _ h3, t, r, s12 _ _ h4, h5⟩
    · show H2 x = _
      rw [hH2]
      exact upd_same
    · show H2 dx = _
      rw [hH2, upd_ne ne]
      exact upd_same
    · exact ok1.tab.1.ext s12
    · exact List.mem_cons_of_mem _ (List.mem_cons_of_mem _ (ok1.sub _ (ok1.tab.2 p hp)))
  -- what the caller sees behind it
  have back : ∀ {H3 : Hp} {n3 : Nat}, RetB F2 H3 n3 → Kp F M H1 H3 ∧ Ok F M σ H3 δ n3 := fun {H3 n3} r => by
    have k : Kp F M H1 H3 := ⟨(sM.trans r.ext).trans (hid_sub fun p hp => List.mem_cons_of_mem _ (List.mem_cons_of_mem _ hp)), fun p hp hw o ho e => r.frm p (List.mem_cons_of_mem _ (List.mem_cons_of_mem _ hp)) (fun z => ?_) o ho (s12 _ _ e)⟩
    · refine ⟨k, ok1.back k r.tab (fun p hp => r.al p (List.mem_cons_of_mem _ (List.mem_cons_of_mem _ hp))) fun p e => ?_⟩
      obtain ⟨h2, h3, h4⟩ := r.wel p e
      exact ⟨h2, hid_sub (fun p hp => List.mem_cons_of_mem _ (List.mem_cons_of_mem _ hp)) _ _ h3, h4⟩
    · rcases z with ⟨q, e1, e2⟩ | ⟨q, e1, e2⟩
      · exact hw q e1 e2
      · cases e1
        have e3 : p = x := e2
        exact xM (by rw [← e3]; exact hp)
  rw [← hH2]
  refine ⟨F2, n1, ws, x, dx, vs, rfl, rfl, rfl, ent, T.wp_mono (fun d n2 q2 H3 r hv => ?_) (fun xn n2 z cls d M' σ' H3 δ' r hxn => ?_) _ _ q⟩
  · obtain ⟨k1, k2⟩ := back r
    exact ⟨rfl, q2 _ H3 (s1.trans k1) k2 (hv M (fun p hp => List.mem_cons_of_mem _ (List.mem_cons_of_mem _ hp)) xM)⟩
  · obtain ⟨k1, k2⟩ := back r.retB
    exact ⟨M, δ, n2, xn, k2, hxn.same (hid_sub fun p hp => r.sub p (List.mem_cons_of_mem _ (List.mem_cons_of_mem _ hp))), z⟩
end
section
variable {X : Cx} {F : Fc} {j k c n m : Nat} {x : Str} {ks : List Str} {pl : List Pl} {g : FFn} {e : Expr} {es : List Expr} {kws : List Keyword} {fa fk : FA} {p pos : Pos}
theorem wp_plan {ws zs : List W} {N : Nat} {Q : W → Nat → Prop} {Z : Xn → Nat → Prop} (q : (if ws.length = n ∧ zs.length = m ∧ (planW pl (ws ++ zs)).all W.arg = true then (g (planW pl (ws ++ zs))).bind fun d => T.ret (W.d d) else .bad).wp N Q Z) :
    ws.length = n ∧ zs.length = m ∧ (planW pl (ws ++ zs)).all W.arg = true ∧ (g (planW pl (ws ++ zs))).wp N (fun d n' => Q (.d d) n') Z := by
  obtain ⟨⟨h1, h2, h3⟩, q⟩ := wp_if q
  exact ⟨h1, h2, h3, (T.wp_bind _ _).mp q⟩
theorem VOks.app {M : List Addr} {H : Hp} {vs us : List V} {ws zs : List W} (h : VOks F M H vs ws) (r : VOks F M H us zs) : VOks F M H (vs ++ us) (ws ++ zs) := VOks.append h r
/-- x(e, ..) -/
theorem pf_make (C : MkP X.prog X.w F.K X.mg X.base j x c n [] pl g) (hr : RoomG k X.A) (hj : j + 1 ≤ k) (hgl : Gl X x) (ha : PFA X F (e :: es) fa) (hK : X.K = F.K.K := by rfl) (hdb : (x == ("__debug__" : Str)) = false := by decide)
    (he : starEach (e :: es) X.env = (false, eval e X.env) :: starEach es X.env := by rfl) (hpl : (backTo pos (starEach es X.env)).any (·.1) = false := by rfl) : PF X F (.Call (.Name x p) (e :: es) [] pos) (fMake n 0 pl g fa fNil) := by
  obtain ⟨f, fd, ps, FG, hm, mk, hb, hp⟩ := C.ex
  rw [← hK] at FG mk hb
  refine ⟨fun Z tk => ⟨fun pins s σ H Q I ⟨M, δ, n0, ok, q⟩ => wpAny_Call_Name_kw (ld_glob I hgl hm (PySem.W.callWith_K (h₀ := X.base) I.ok.mod.kin mk.kp ?_ he hpl) hdb)⟩⟩
  refine thn ((ha.pa Z tk).run pos pins s σ H (fun vs H1 => vs.length = n ∧ ∀ x dx, H1 x = none → H1 dx = none → dx ≠ x → spI F.K c g (planV (.arg 0 :: pl.map Pl.up) (.ref x :: (vs ++ []))) (upd (upd H1 dx (.own x)) x (.ins (F.K.ct c) dx [])) (fun v H2 => v = .non ∧ Q (.ref x) H2) (fun cls d H => WZ F Z cls d σ H)) I
    (goA ok ((T.wp_bind _ _).mp q) fun ws n1 vs H1 q1 s1 ok1 v1 => ?_)) fun us s1 ⟨vs, H1, I1, r, hn, q⟩ => ⟨I1.kIn, run_makeP (us := us) (ws := []) (ks := []) mk FG (hr.mono hj) hb hp.up (passZ tk σ) I1 r .nil hn rfl q⟩
  rw [fNil_def, T.ret_bind] at q1
  obtain ⟨h1, h2, h3, q2⟩ := wp_plan (zs := []) q1
  refine ⟨by rw [v1.length]; exact h1, fun x dx hx hd ne => ?_⟩
  rw [plan_up]
  exact make_sp rfl s1 ok1 (plan_voks hp (v1.app .nil)) h3 q2 hx hd ne
/-- x(k = e, ..) -/
theorem pf_makeK (C : MkP X.prog X.w F.K X.mg X.base j x c 0 ks pl g) (hr : RoomG k X.A) (hj : j + 1 ≤ k) (hgl : Gl X x) (ha : PFK X F kws fk) (hL : ks.length = m := by rfl) (hK : X.K = F.K.K := by rfl)
    (hall : (backToKw pos (keywordEach kws X.env)).all (·.1.isSome) = true := by rfl) (hks : (backToKw pos (keywordEach kws X.env)).filterMap (·.1) = ks := by rfl) (hdb : (x == ("__debug__" : Str)) = false := by decide)
    (hpl : ((backTo pos (starEach [] X.env)).any (·.1) || (backToKw pos (keywordEach kws X.env)).any (·.1.isNone)) = false := by rfl) :
    PF X F (.Call (.Name x p) [] kws pos) (fMake 0 m pl g fNil fk) := by
  obtain ⟨f, fd, ps, FG, hm, mk, hb, hp⟩ := C.ex
  rw [← hK] at FG mk hb
  refine ⟨fun Z tk => ⟨fun pins s σ H Q I ⟨M, δ, n0, ok, q⟩ => wpAny_Call_Name_kw (ld_glob I hgl hm ?_ hdb)⟩⟩
  refine PySem.W.callWith_KW0 (h₀ := X.base) I.ok.mod.kin mk.kp hall ?_ hpl
  refine thn ((ha.pk Z tk).run pos pins s σ H (fun zs H1 => zs.length = ks.length ∧ ∀ x dx, H1 x = none → H1 dx = none → dx ≠ x → spI F.K c g (planV (.arg 0 :: pl.map Pl.up) (.ref x :: ([] ++ zs))) (upd (upd H1 dx (.own x)) x (.ins (F.K.ct c) dx [])) (fun v H2 => v = .non ∧ Q (.ref x) H2) (fun cls d H => WZ F Z cls d σ H)) I
    (goA ok ((T.wp_bind _ _).mp q) fun ws n1 vs H1 q1 s1 ok1 v1 => ?_)) fun ws s2 ⟨zs, H2, I2, rz, hz, q⟩ => ⟨I2.kIn, ?_⟩
  · obtain ⟨h1, h2, h3, q2⟩ := wp_plan (ws := []) q1
    refine ⟨by rw [v1.length, hL]; exact h2, fun x dx hx hd ne => ?_⟩
    rw [plan_up]
    exact make_sp rfl s1 ok1 (plan_voks hp (VOks.app .nil v1)) h3 q2 hx hd ne
  · rw [hks]
    exact run_makeP (us := []) (vs := []) (n := 0) mk FG (hr.mono hj) hb hp.up (passZ tk σ) I2 .nil rz rfl hz q
end
end FL

/-! Methods; == and != by an own __eq__. -/
namespace FL
open PySem PySem.Spec PyProof.Rows L2 Gd Fx Stp LamX Lm
/-! ### methods -/
structure MeP (P : Program) (w : World) (K : Kx) (mg : Str → Option Value) (base : Heap) (k : Nat) (cs : List Nat) (m : Str) (n : Nat) (ks : List Str) (pl : List Pl) (g : FFn) : Prop where
  ex : ∃ (f : Addr) (fd : FuncData) (ps : List Str), FnG P w K.K mg base (L2.CX P w) k f fd ps (spF K g) ∧ (∀ c ∈ cs, Cls K.K (K.ct c) ∧ Meth K.K (K.ct c) m f) ∧ BindP K.K fd ps (n + 1) ks pl ∧ PlOk K pl
def selfIn (cs : List Nat) (m : Str) : W → Bool
  | .d (.obj c fs) => decide (c ∈ cs) && (fs.lookup m).isNone
  | _ => false
def fMeth (cs : List Nat) (m : Str) (n l : Nat) (pl : List Pl) (g : FFn) (fo : FE) (fa fk : FA) : FE := fun δ => (fo δ).bind fun o => (fa δ).bind fun ws => (fk δ).bind fun zs =>
  if selfIn cs m o = true ∧ ws.length = n ∧ zs.length = l ∧ (planW pl (o :: (ws ++ zs))).all W.arg = true then (g (planW pl (o :: (ws ++ zs)))).bind fun d => .ret (.d d) else .bad
@[simp] theorem fMeth_def (cs : List Nat) (m : Str) (n l : Nat) (pl : List Pl) (g : FFn) (fo : FE) (fa fk : FA) (δ : Sl) : fMeth cs m n l pl g fo fa fk δ = (fo δ).bind fun o => (fa δ).bind fun ws => (fk δ).bind fun zs =>
  if selfIn cs m o = true ∧ ws.length = n ∧ zs.length = l ∧ (planW pl (o :: (ws ++ zs))).all W.arg = true then (g (planW pl (o :: (ws ++ zs)))).bind fun d => .ret (.d d) else .bad := rfl
@[simp] theorem fMake_def (n m : Nat) (pl : List Pl) (g : FFn) (fa fk : FA) (δ : Sl) : fMake n m pl g fa fk δ = (fa δ).bind fun ws => (fk δ).bind fun zs => if ws.length = n ∧ zs.length = m ∧ (planW pl (ws ++ zs)).all W.arg = true then (g (planW pl (ws ++ zs))).bind fun d => .ret (.d d) else .bad := rfl
@[simp] theorem selfIn_o (cs : List Nat) (m : Str) (c : Nat) (fs : List (Str × D)) : selfIn cs m (.d (.obj c fs)) = (decide (c ∈ cs) && (fs.lookup m).isNone) := rfl
theorem selfIn_ok {cs : List Nat} {m : Str} {w : W} (h : selfIn cs m w = true) : ∃ c fs, w = .d (.obj c fs) ∧ c ∈ cs ∧ fs.lookup m = none := by
  match w, h with
  | .d (.obj c fs), h =>
    rw [selfIn_o, Bool.and_eq_true_iff] at h
    exact ⟨c, fs, rfl, of_decide_eq_true h.1, Option.isNone_iff_eq_none.mp h.2⟩
theorem keep_o {α : Type} {w : W} {n : Nat} {f : FE} {δ : Sl} {k : W → R α} {Q : α → Nat → Prop} {Z : Xn → Nat → Prop} (q : ((f δ).bind k).wp n Q Z) : (f δ).wp n (fun a m => (k a).wp m Q Z) Z := (T.wp_bind _ _).mp q
section
variable {X : Cx} {F : Fc} {j k n l : Nat} {cs : List Nat} {x m : Str} {ks : List Str} {pl : List Pl} {g : FFn} {o e : Expr} {es : List Expr} {kws : List Keyword} {fo : FE} {fa fk : FA} {apos pos : Pos} {pb : Sem Bool}
/-- a branch that only ends well if the condition holds, whatever is run ahead of it -/
theorem ahead_if {α : Type} {c : Prop} [Decidable c] {a : R α} {n : Nat} {Q : α → Nat → Prop} {Z : Xn → Nat → Prop} (q : (if c then a else .bad).wp n Q Z) : c ∧ a.wp n Q Z := wp_if q
/-- the object is asked first: that it is an instance is told by what comes last -/
def fMethI (cs : List Nat) (m : Str) (n l : Nat) (pl : List Pl) (g : FFn) (fo : FE) (fa fk : FA) : FE := fun δ => (fo δ).bind fun o => if selfIn cs m o = true then (fa δ).bind fun ws => (fk δ).bind fun zs =>
  if ws.length = n ∧ zs.length = l ∧ (planW pl (o :: (ws ++ zs))).all W.arg = true then (g (planW pl (o :: (ws ++ zs)))).bind fun d => .ret (.d d) else .bad else .bad
@[simp] theorem fMethI_def (cs : List Nat) (m : Str) (n l : Nat) (pl : List Pl) (g : FFn) (fo : FE) (fa fk : FA) (δ : Sl) : fMethI cs m n l pl g fo fa fk δ = (fo δ).bind fun o => if selfIn cs m o = true then (fa δ).bind fun ws => (fk δ).bind fun zs =>
  if ws.length = n ∧ zs.length = l ∧ (planW pl (o :: (ws ++ zs))).all W.arg = true then (g (planW pl (o :: (ws ++ zs)))).bind fun d => .ret (.d d) else .bad else .bad := rfl
theorem pf_meth (C : MeP X.prog X.w F.K X.mg X.base j cs m n [] pl g) (hr : RoomG k X.A) (hj : j ≤ k) (ho : PF X F o fo) (ha : PFA X F (e :: es) fa) (hK : X.K = F.K.K := by rfl)
    (he : starEach (e :: es) X.env = (false, eval e X.env) :: starEach es X.env := by rfl) (hpl : (backTo pos (starEach es X.env)).any (·.1) = false := by rfl)
    (ht : eval (.Call (.Attribute o m apos) (e :: es) [] pos) X.env = (do
      let ov ← eval o X.env
      standAt apos.atName
      let (f, first) ← holding [ov] (getMethod ov m pb)
      callWith pos f first (backTo pos (starEach (e :: es) X.env)) (backToKw pos (keywordEach [] X.env))) := by rfl) :
    PF X F (.Call (.Attribute o m apos) (e :: es) [] pos) (fMethI cs m n 0 pl g fo fa fNil) := by
  obtain ⟨f, fd, ps, FG, hm, hb, hp⟩ := C.ex
  rw [← hK] at FG hm hb
  refine ⟨fun Z tk => ⟨fun pins s σ H Q I ⟨M, δ, n0, ok, q⟩ => PySem.W.methodCall_KW (pl := pb) (thn ((ho.pe Z tk).run pins s σ H (fun x H1 => ∃ (c : Nat) (a dx : Addr) (fs : List (Str × V)), c ∈ cs ∧ x = .ref a ∧ H1 a = some (.ins (F.K.ct c) dx fs) ∧ fs.lookup m = none ∧
      tA F Z fa σ H1 fun vs H2 => vs.length = n ∧ spF F.K g (planV pl (.ref a :: (vs ++ []))) H2 Q (fun cls d H => WZ F Z cls d σ H)) I
      (goE ok ((T.wp_bind _ _).mp q) fun w n1 v H1 q1 s1 ok1 v1 => ?_)) fun u s1 ⟨x, H1, I1, rx, c, a, dx, fs, hc, ex, ea, l, q1⟩ => ?_) ht⟩⟩
  · obtain ⟨hs, q2⟩ := wp_if q1
    obtain ⟨c, gs, rfl, hc, hl⟩ := selfIn_ok hs
    obtain ⟨a, dx, fs, rfl, ea, ef⟩ := RV.obj (.dat v1)
    refine ⟨c, a, dx, fs, hc, rfl, ea, ef.lacks hl, goA ok1 ((T.wp_bind _ _).mp q2) fun ws n2 vs H2 q3 s2 ok2 v2 => ?_⟩
    rw [fNil_def, T.ret_bind] at q3
    obtain ⟨⟨h1, h2, h3⟩, q4⟩ := wp_if q3
    have v1' : VOk F M H2 (.ref a) (.d (.obj c gs)) := VOk.kp s2 v1
    exact ⟨by rw [v2.length]; exact h1, call_sp rfl (s1.trans s2) ok2 (plan_voks hp (.cons v1' (v2.app .nil))) h3 ((T.wp_bind _ _).mp q4)⟩
  · subst ex
    obtain rfl : u = Value.ref a := rx
    obtain ⟨k1, k2⟩ := hm c hc
    refine getmeth_ok I1 ea k1 k2 l ?_
    refine PySem.W.callWith_K (first := [.ref a]) (h₀ := X.base) I.ok.mod.kin k2.kp (thn (ha.pa Z tk |>.run pos pins s1 σ H1 _ I1 q1) fun us s2 ⟨vs, H2, I2, r, hn, q2⟩ => ⟨I2.kIn, ?_⟩) he hpl
    exact run_fnP (us := .ref a :: us) (vs := .ref a :: vs) (ws := []) (zs := []) (ks := []) FG (hr.mono hj) hb hp (passZ tk σ) I2 (.cons rfl r) .nil (congrArg (· + 1) hn) rfl q2
theorem pf_meth0 (C : MeP X.prog X.w F.K X.mg X.base j cs m 0 [] pl g) (hr : RoomG k X.A) (hj : j ≤ k) (ho : PF X F o fo) (hK : X.K = F.K.K := by rfl)
    (ht : eval (.Call (.Attribute o m apos) [] [] pos) X.env = (do
      let ov ← eval o X.env
      standAt apos.atName
      let (f, first) ← holding [ov] (getMethod ov m pb)
      callWith pos f first (backTo pos (starEach [] X.env)) (backToKw pos (keywordEach [] X.env))) := by rfl) :
    PF X F (.Call (.Attribute o m apos) [] [] pos) (fMethI cs m 0 0 pl g fo fNil fNil) := by
  obtain ⟨f, fd, ps, FG, hm, hb, hp⟩ := C.ex
  rw [← hK] at FG hm hb
  refine ⟨fun Z tk => ⟨fun pins s σ H Q I ⟨M, δ, n0, ok, q⟩ => PySem.W.methodCall_KW (pl := pb) (thn ((ho.pe Z tk).run pins s σ H (fun x H1 => ∃ (c : Nat) (a dx : Addr) (fs : List (Str × V)), c ∈ cs ∧ x = .ref a ∧ H1 a = some (.ins (F.K.ct c) dx fs) ∧ fs.lookup m = none ∧
      spF F.K g (planV pl [.ref a]) H1 Q (fun cls d H => WZ F Z cls d σ H)) I
      (goE ok ((T.wp_bind _ _).mp q) fun w n1 v H1 q1 s1 ok1 v1 => ?_)) fun u s1 ⟨x, H1, I1, rx, c, a, dx, fs, hc, ex, ea, l, q1⟩ => ?_) ht⟩⟩
  · obtain ⟨hs, q2⟩ := wp_if q1
    obtain ⟨c, gs, rfl, hc, hl⟩ := selfIn_ok hs
    obtain ⟨a, dx, fs, rfl, ea, ef⟩ := RV.obj (.dat v1)
    refine ⟨c, a, dx, fs, hc, rfl, ea, ef.lacks hl, ?_⟩
    rw [fNil_def, T.ret_bind, T.ret_bind] at q2
    obtain ⟨⟨h1, h2, h3⟩, q4⟩ := wp_if q2
    exact call_sp rfl s1 ok1 (plan_voks hp (.cons v1 .nil)) h3 ((T.wp_bind _ _).mp q4)
  · subst ex
    obtain rfl : u = Value.ref a := rx
    obtain ⟨k1, k2⟩ := hm c hc
    refine getmeth_ok I1 ea k1 k2 l ?_
    exact PySem.W.callWith_K0 (first := [.ref a]) I1.kIn k2.kp (run_fnP (us := [.ref a]) (vs := [.ref a]) (ws := []) (zs := []) (ks := []) FG (hr.mono hj) hb hp (passZ tk σ) I1 (.cons rfl .nil) .nil rfl rfl q1)
theorem pf_methK (C : MeP X.prog X.w F.K X.mg X.base j cs m 0 ks pl g) (hr : RoomG k X.A) (hj : j ≤ k) (ho : PF X F o fo) (ha : PFK X F kws fk) (hL : ks.length = l := by rfl) (hK : X.K = F.K.K := by rfl)
    (hall : (backToKw pos (keywordEach kws X.env)).all (·.1.isSome) = true := by rfl) (hks : (backToKw pos (keywordEach kws X.env)).filterMap (·.1) = ks := by rfl)
    (hpl : ((backTo pos (starEach [] X.env)).any (·.1) || (backToKw pos (keywordEach kws X.env)).any (·.1.isNone)) = false := by rfl)
    (ht : eval (.Call (.Attribute o m apos) [] kws pos) X.env = (do
      let ov ← eval o X.env
      standAt apos.atName
      let (f, first) ← holding [ov] (getMethod ov m pb)
      callWith pos f first (backTo pos (starEach [] X.env)) (backToKw pos (keywordEach kws X.env))) := by rfl) :
    PF X F (.Call (.Attribute o m apos) [] kws pos) (fMethI cs m 0 l pl g fo fNil fk) := by
  obtain ⟨f, fd, ps, FG, hm, hb, hp⟩ := C.ex
  rw [← hK] at FG hm hb
  refine ⟨fun Z tk => ⟨fun pins s σ H Q I ⟨M, δ, n0, ok, q⟩ => PySem.W.methodCall_KW (pl := pb) (thn ((ho.pe Z tk).run pins s σ H (fun x H1 => ∃ (c : Nat) (a dx : Addr) (fs : List (Str × V)), c ∈ cs ∧ x = .ref a ∧ H1 a = some (.ins (F.K.ct c) dx fs) ∧ fs.lookup m = none ∧
      tA F Z fk σ H1 fun vs H2 => vs.length = l ∧ spF F.K g (planV pl (.ref a :: vs)) H2 Q (fun cls d H => WZ F Z cls d σ H)) I
      (goE ok ((T.wp_bind _ _).mp q) fun w n1 v H1 q1 s1 ok1 v1 => ?_)) fun u s1 ⟨x, H1, I1, rx, c, a, dx, fs, hc, ex, ea, l, q1⟩ => ?_) ht⟩⟩
  · obtain ⟨hs, q2⟩ := wp_if q1
    obtain ⟨c, gs, rfl, hc, hl⟩ := selfIn_ok hs
    obtain ⟨a, dx, fs, rfl, ea, ef⟩ := RV.obj (.dat v1)
    rw [fNil_def, T.ret_bind] at q2
    refine ⟨c, a, dx, fs, hc, rfl, ea, ef.lacks hl, goA ok1 ((T.wp_bind _ _).mp q2) fun ws n2 vs H2 q3 s2 ok2 v2 => ?_⟩
    obtain ⟨⟨h1, h2, h3⟩, q4⟩ := wp_if q3
    have v1' : VOk F M H2 (.ref a) (.d (.obj c gs)) := VOk.kp s2 v1
    exact ⟨by rw [v2.length]; exact h2, call_sp rfl (s1.trans s2) ok2 (plan_voks hp (.cons v1' v2)) h3 ((T.wp_bind _ _).mp q4)⟩
  · subst ex
    obtain rfl : u = Value.ref a := rx
    obtain ⟨k1, k2⟩ := hm c hc
    refine getmeth_ok I1 ea k1 k2 l ?_
    refine PySem.W.callWith_KW0 (first := [.ref a]) (h₀ := X.base) I.ok.mod.kin k2.kp hall (thn ((ha.pk Z tk).run pos pins s1 σ H1 _ I1 q1) fun ws s2 ⟨zs, H2, I2, rz, hz, q2⟩ => ⟨I2.kIn, ?_⟩) hpl
    rw [hks]
    exact run_fnP (us := [.ref a]) (vs := [.ref a]) (n := 1) FG (hr.mono hj) hb hp (passZ tk σ) I2 (.cons rfl .nil) rz rfl (hz.trans hL.symm) q2
end
end FL

/-! == and != by an own __eq__. -/
namespace FL
open PySem PySem.Spec PyProof.Rows L2 Gd Fx Stp LamX Lm
/-- a class with an own == at f, with object's != -/
structure EqC (K : PySem.W.Frag) (C f : Addr) : Prop where
  eq : PySem.W.findIn K (.ref C) "__eq__" = some (some (.ref f))
  fn : PySem.W.isFn K (.ref f) = true
  ne : PySem.W.findIn K (.ref C) "__ne__" = some (some (.builtin "object.__ne__"))
  ob : ∃ (nm q : Str) (N : Addr) (bs bm : List Value) (hdct : Bool) (sn : List Str) (sub : List Value) (ab : Bool) (col : Option Bool) (dd : Option Addr) (k0 k1 k2 k3 k5 : Option Value) (nid : String),
    K.lookup C = some (excClassObj nm q C N bs bm hdct sn sub ab col dd k0 k1 k2 k3 k5 nid) ∧ bm.contains (.type "object") = true
section
variable {prog : Program} {w : World} {A : Around} {E : Value → Shared → Prop} {s : Shared} {K : PySem.W.Frag} {x C f : Addr} {ox : Obj} {od : Option Obj} {b tb : Value}
theorem ne_special {M : Model} {args : List Value} {Q : Option Value → Shared → Prop} (KI : K.In s.heap) (I : PySem.W.InstAt s.heap x ox C od) (hs : PySem.W.findIn K (.ref C) "__ne__" = some (some (.builtin "object.__ne__")))
    (h : wpAny M A (call (.builtin "object.__ne__") (.ref x :: args)) (fun v => Q (some v)) E s) : wpAny M A (callSpecialIfBound? (.ref x) "__ne__" args) Q E s := by
  unfold callSpecialIfBound? bindSpecialIfBound?
  have hb := PySem.F.cmp_object.ne.bind
  refine wpAny_holding (wpAny_bind (wpAny_bind (wpAny_bind (I.type.here ((PySem.W.looks_findIn KI hs).here ?_)))))
  simp only [hb]
  have last : wpAny M A (call (.builtin "object.__ne__") ([.ref x] ++ args) >>= fun v => pure (some v)) Q E s := wpAny_bind (wpAny_mono h (fun v s2 z => wpAny_pure z) fun _ _ z => z)
  refine wpAny_bind (wpAny_askSetting (wpAny_ite ?_))
  split
  · exact wpAny_bind (wpAny_pure (wpAny_pure last))
  · exact wpAny_tryCatch (wpAny_bind (wpAny_pure (wpAny_pure last)))
theorem ne_body (hu : A.units < cLine) (KI : K.In s.heap) (I : PySem.W.InstAt s.heap x ox C od) (E0 : EqC K C f) {Q : PySem.Fin → Shared → Prop}
    (h : wpAny (model prog w) A (call (.ref f) [.ref x, b]) (fun v s2 => ∃ r, v = .bool r ∧ Q (.done (.ret (.bool (!r)))) s2) E s) :
    wpAny (model prog w) A (Builtin.«object.__ne__» ⟨[.ref x, b], []⟩) Q E s := by
  unfold Builtin.«object.__ne__»
  obtain ⟨hp, g, d, t, os⟩ := s
  repeat (first
    | with_reducible refine wpAny_cRoomFor hu ?_
    | (refine wpAny_bind (m := callSpecialIfBound? (.ref x) (Str.ofString "__eq__") [b])
        (PySem.W.ifBound_K KI I E0.eq E0.fn (wpAny_mono h (fun v s2 z => by
          obtain ⟨r, rfl, q⟩ := z
          repeat (first | exact q | exact wpAny_pure q | exact wpAny_truthy_bool q | (refine wpAny_bind (m := truthy (.bool _)) (wpAny_truthy_bool ?_)) | wp_step)) fun _ _ z => z)))
    | wp_step)
theorem ne_K {Q : Value → Shared → Prop} (hu : A.units + 1 < cLine) (KI : K.In s.heap) (I : PySem.W.InstAt s.heap x ox C od) (hb : PySem.W.Looks (model prog w) s.heap (typeOf b) tb) (hn : PySem.W.notFirst K C tb = true) (E0 : EqC K C f)
    (h : wpAny (model prog w) A.in1 (call (.ref f) [.ref x, b]) (fun v s2 => ∃ r, v = .bool r ∧ Q (.bool (!r)) s2) E s) : wpAny (model prog w) A (richCompare .NotEq (.ref x) b) Q E s := by
  obtain ⟨nm, q, N, bs, bm, hdct, sn, sub, ab, col, dd, k0, k1, k2, k3, k5, nid, hC, hob⟩ := E0.ob
  have hC2 := KI _ _ hC
  have one : wpAny (model prog w) A (tryCompare (.ref x) "__ne__" b) (fun r s2 => ∃ v, r = some v ∧ Q v s2) E s := by
    unfold tryCompare
    refine wpAny_bind (ne_special KI I E0.ne (wpAny_call (codeAny_call_builtin PySem.F.cmp_object.ne.plain PySem.F.cmpEntry_ne ?_)))
    obtain ⟨hp, g, d, t, os⟩ := s
    refine wpAny_check_slot_inst PySem.F.cmpKind_ne PySem.F.cmpSplit_ne (PySem.F.cmpArgs_ne _ _) hob I.at_ I.cls hC2 ?_
    refine ne_body (A := A.in1) hu KI I E0 (wpAny_mono h (fun v s2 z => ?_) fun _ _ z => z)
    obtain ⟨r, rfl, q⟩ := z
    first | exact ⟨r, rfl, wpAny_pure ⟨_, rfl, q⟩⟩ | exact ⟨r, rfl, wpAny_pure (wpAny_pure ⟨_, rfl, q⟩)⟩
  unfold richCompare
  simp only [oneThing_ref]
  refine wpAny_holding (wpAny_bind (wpAny_cRoomFor (by omega) (wpAny_bind (I.type.here (wpAny_bind (hb.here ?_))))))
  rw [cmpInfo_NotEq]
  split
  · rename_i z
    have e : PySem.W.subIn K tb (.ref C) = some false := (Bool.or_eq_true_iff.mp hn).elim (fun e => by rw [beq_iff_eq.mp e] at z; simp at z) fun e => beq_iff_eq.mp e
    refine wpAny_bind ((PySem.W.looks_subIn KI e).here ?_)
    simp only [Bool.false_eq_true, if_false]
    refine wpAny_bind (wpAny_mono one (fun r s2 y => ?_) fun _ _ y => y)
    obtain ⟨v, rfl, q⟩ := y
    exact wpAny_pure q
  · refine wpAny_bind (wpAny_pure ?_)
    simp only [Bool.false_eq_true, if_false]
    refine wpAny_bind (wpAny_mono one (fun r s2 y => ?_) fun _ _ y => y)
    obtain ⟨v, rfl, q⟩ := y
    exact wpAny_pure q
end

theorem RoomG.in1 {k : Nat} {A : Around} (r : RoomG (k + 1) A) : RoomG k A.in1 := ⟨r.toRoom.in1, r.gd⟩
/-- what an own == asks of the right side -/
structure EqP (P : Program) (w : World) (K : Kx) (mg : Str → Option Value) (base : Heap) (k c : Nat) (cs : List Nat) (g : FFn) : Prop where
  ex : ∃ (f : Addr) (fd : FuncData) (ps : List Str), FnG P w K.K mg base (L2.CX P w) k f fd ps (spF K g) ∧ EqC K.K (K.ct c) f ∧ BindP K.K fd ps 2 [] [.arg 0, .arg 1]
  nt : ∀ T ∈ ["NoneType", "bool", "int", "str", "list", "tuple", "dict"], PySem.W.notFirst K.K (K.ct c) (.type T) = true
  nc : ∀ c' ∈ cs, InsC K.K (K.ct c') ∧ PySem.W.notFirst K.K (K.ct c) (.ref (K.ct c')) = true
def rightOk (cs : List Nat) : D → Bool
  | .obj c _ => decide (c ∈ cs)
  | .any => false
  | _ => true
structure EqE where
  c : Nat
  cs : List Nat
  g : FFn
def negB (neg t : Bool) : Bool := if neg then !t else t
def boolR (neg : Bool) : D → R W
  | .bool t => .ret (.d (.bool (negB neg t)))
  | _ => .bad
def eqRight (neg : Bool) (e : EqE) (a : W) : W → R W
  | .d y => if rightOk e.cs y = true then ((e.g [a, .d y]).noex).bind (boolR neg) else .bad
  | _ => .bad
def eqFlat (neg : Bool) (a b : W) : R W := a.rd.bind fun x => b.rd.bind fun y => (T.of (if neg = true then dNe x y else dEq x y)).bind fun z => .ret (.d z)
def eqW (neg : Bool) (tb : List EqE) (a b : W) : R W := match a with
  | .d (.obj c _) => (match tb.find? (fun e => e.c == c) with
    | some e => eqRight neg e a b
    | none => .bad)
  | _ => eqFlat neg a b
def fEqW (neg : Bool) (tb : List EqE) (f1 f2 : FE) : FE := fun δ => (f1 δ).bind fun a => (f2 δ).bind fun b => eqW neg tb a b
@[simp] theorem fEqW_def (neg : Bool) (tb : List EqE) (f1 f2 : FE) (δ : Sl) : fEqW neg tb f1 f2 δ = (f1 δ).bind fun a => (f2 δ).bind fun b => eqW neg tb a b := rfl
@[simp] theorem eqW_o (neg : Bool) (tb : List EqE) (c : Nat) (fs : List (Str × D)) (b : W) : eqW neg tb (.d (.obj c fs)) b = (match tb.find? (fun e => e.c == c) with
    | some e => eqRight neg e (.d (.obj c fs)) b
    | none => .bad) := rfl
@[simp] theorem eqW_i (neg : Bool) (tb : List EqE) (i : Int) (b : W) : eqW neg tb (.d (.int i)) b = eqFlat neg (.d (.int i)) b := rfl
@[simp] theorem eqW_s (neg : Bool) (tb : List EqE) (i : Str) (b : W) : eqW neg tb (.d (.str i)) b = eqFlat neg (.d (.str i)) b := rfl
@[simp] theorem eqW_l (neg : Bool) (tb : List EqE) (i : List D) (b : W) : eqW neg tb (.d (.list i)) b = eqFlat neg (.d (.list i)) b := rfl
@[simp] theorem eqW_t (neg : Bool) (tb : List EqE) (i : List D) (b : W) : eqW neg tb (.d (.tuple i)) b = eqFlat neg (.d (.tuple i)) b := rfl
@[simp] theorem eqW_n (neg : Bool) (tb : List EqE) (b : W) : eqW neg tb (.d .none) b = eqFlat neg (.d .none) b := rfl
@[simp] theorem eqW_b (neg : Bool) (tb : List EqE) (i : Bool) (b : W) : eqW neg tb (.d (.bool i)) b = eqFlat neg (.d (.bool i)) b := rfl
@[simp] theorem eqW_ln (neg : Bool) (tb : List EqE) (x : D) (b : W) : eqW neg tb (.ln x) b = eqFlat neg (.ln x) b := rfl
@[simp] theorem eqFlat_def (neg : Bool) (a b : W) : eqFlat neg a b = a.rd.bind fun x => b.rd.bind fun y => (T.of (if neg = true then dNe x y else dEq x y)).bind fun z => .ret (.d z) := rfl
@[simp] theorem eqRight_d (neg : Bool) (e : EqE) (a : W) (y : D) : eqRight neg e a (.d y) = if rightOk e.cs y = true then ((e.g [a, .d y]).noex).bind (boolR neg) else .bad := rfl
@[simp] theorem boolR_b (neg t : Bool) : boolR neg (.bool t) = .ret (.d (.bool (negB neg t))) := rfl
@[simp] theorem negB_t (t : Bool) : negB true t = !t := rfl
@[simp] theorem negB_f (t : Bool) : negB false t = t := rfl
/-- the machine's side -/
def rOwn (X : Cx) (k : Nat) (neg : Bool) : R2 := fun x y H Q => ∃ (a C dx f : Addr) (fs : List (Str × V)) (fd : FuncData) (ps : List Str) (tb : Value) (sp : Sp), x = .ref a ∧ H a = some (.ins C dx fs) ∧ EqC X.K C f ∧ FnG X.prog X.w X.K X.mg X.base (L2.CX X.prog X.w) k f fd ps sp ∧ BindP X.K fd ps 2 [] [.arg 0, .arg 1] ∧
  TyX X.K H y tb ∧ PySem.W.notFirst X.K C tb = true ∧ sp [x, y] H (fun v H' => ∃ t, v = .bl t ∧ Q (.bl (negB neg t)) H') (fun _ _ _ => False)
section
variable {X : Cx} {F : Fc} {k : Nat}
theorem pass_none {σ : L2.St} : PassesAt (L2.CX X.prog X.w) X σ (fun _ _ _ => False) := fun pins H s e s2 I ⟨_, _, _, _, _, _, _, _, _, _, _, _, z⟩ => z.elim
theorem own_call {A : Around} {f a : Addr} {fd : FuncData} {ps : List Str} {sp : Sp} {neg : Bool} {pins : List (Addr × Obj)} {σ : L2.St} {H : Hp} {s : Shared} {y : V} {v : Value} {Q : VK} (FG : FnG X.prog X.w X.K X.mg X.base (L2.CX X.prog X.w) k f fd ps sp) (hr : RoomG k A) (e0 : Env0 X.prog X.w X.K X.mg X.base A X.stack s H) (hb : BindP X.K fd ps 2 [] [.arg 0, .arg 1])
    (I : Inv X pins σ H s) (ry : RelV y v) (h : sp [.ref a, y] H (fun v H' => ∃ t, v = .bl t ∧ Q (.bl (negB neg t)) H') (fun _ _ _ => False)) : wpAny (model X.prog X.w) A (call (.ref f) [.ref a, v]) (fun u s2 => ∃ t, u = .bool t ∧ EP X pins σ Q (.bool (negB neg t)) s2) X.xe s := by
  have r2 : Vals [V.ref a, y] [Value.ref a, v] := .cons rfl (.cons ry .nil)
  refine wpAny_call (codeAny_mono (FG.run A X.stack s H ⟨[.ref a, v], []⟩ (planU [.arg 0, .arg 1] [.ref a, v]) [.ref a, y] _ _ hr e0 (hb.to s [.ref a, v] [] I.kIn rfl rfl) r2 h) fun z s2 hz => ?_)
  cases z with
  | error e => exact pass_none (σ := σ) pins H s e s2 I hz
  | ok fl =>
    cases fl with
    | ret u =>
      obtain ⟨vv, H2, I2, r, t, rfl, q⟩ := I.after hz
      cases r
      exact ⟨t, rfl, .bl _, H2, I2, rfl, q⟩
    | next => exact hz.elim
    | brk => exact hz.elim
    | cont => exact hz.elim
theorem own_looks {C dx a : Addr} {fs : List (Str × V)} {pins : List (Addr × Obj)} {σ : L2.St} {H : Hp} {s : Shared} {y : V} {v tb : Value} (I : Inv X pins σ H s) (e : H a = some (.ins C dx fs)) (ry : RelV y v) (ty : TyX X.K H y tb) :
    (∃ od ox, PySem.W.InstAt s.heap a ox C od) ∧ PySem.W.Looks (model X.prog X.w) s.heap (typeOf v) tb := by
  obtain ⟨mA, J, _⟩ := ins_get I.hok e
  obtain ⟨od, J, _⟩ := J.look
  obtain ⟨P, kx, hp, _⟩ := kit_of I ry ty
  exact ⟨⟨_, _, J⟩, kx.ty _ _ I.kIn hp⟩
theorem op_ownEq (hr : RoomG (k + 1) X.A) : OpR X (compareOp .Eq) (rOwn X k false) := by
  rintro pins s σ H x y u v Q I rx ry ⟨a, C, dx, f, fs, fd, ps, tb, sp, rfl, ea, E0, FG, hb, ty, hn, h⟩
  cases rx
  obtain ⟨⟨od, ox, J⟩, lk⟩ := own_looks I ea ry ty
  show wpAny (model X.prog X.w) X.A (richCompare .Eq (.ref a) v) (EP X pins σ Q) X.xe s
  obtain ⟨m, hF⟩ := I.fr
  refine PySem.W.cmp_K (op := .Eq) hr.toRoom.units0 hF I.ok.mod.kin J lk hn E0.eq E0.fn (wpAny_mono (own_call FG (hr.mono (Nat.le_succ _)) I.env0 hb I ry h) (fun u s2 z => ?_) fun _ _ z => z)
  obtain ⟨t, rfl, q⟩ := z
  exact q
theorem op_ownNe (hr : RoomG (k + 1) X.A) : OpR X (compareOp .NotEq) (rOwn X k true) := by
  rintro pins s σ H x y u v Q I rx ry ⟨a, C, dx, f, fs, fd, ps, tb, sp, rfl, ea, E0, FG, hb, ty, hn, h⟩
  cases rx
  obtain ⟨⟨od, ox, J⟩, lk⟩ := own_looks I ea ry ty
  show wpAny (model X.prog X.w) X.A (richCompare .NotEq (.ref a) v) (EP X pins σ Q) X.xe s
  refine ne_K (by have := hr.toRoom.un; omega) I.kIn J lk hn E0 (wpAny_mono (own_call FG (FL.RoomG.in1 hr) I.env0.in1 hb I ry h) (fun u s2 z => ?_) fun _ _ z => z)
  obtain ⟨t, rfl, q⟩ := z
  exact ⟨t, rfl, q⟩
/-! ### the rule -/
theorem opR_or {f : Value → Value → Sem Value} {r r' : R2} (h : OpR X f r) (h' : OpR X f r') : OpR X f (fun x y H Q => r x y H Q ∨ r' x y H Q) := fun pins s σ H x y v u Q I rx ry q => q.elim (h pins s σ H x y v u Q I rx ry) (h' pins s σ H x y v u Q I rx ry)
def EqTab (P : Program) (w : World) (K : Kx) (mg : Str → Option Value) (base : Heap) (k : Nat) (tb : List EqE) : Prop := ∀ e ∈ tb, EqP P w K mg base k e.c e.cs e.g
theorem notF {K : Kx} {P : Program} {w : World} {mg : Str → Option Value} {base : Heap} {e : EqE} (h : EqP P w K mg base k e.c e.cs e.g) {y : D} (hy : rightOk e.cs y = true) {M : List Addr} {H : Hp} {v : V} (hv : RV K M H v y) : TyX K.K H v (tyV K y) ∧ PySem.W.notFirst K.K (K.ct e.c) (tyV K y) = true := by
  refine ⟨rv_ty hv (fun c fs z => ?_) (fun z => ?_), ?_⟩
  · subst z
    exact (h.nc c (of_decide_eq_true hy)).1
  · subst z
    cases hy
  · cases y with
    | obj c fs => exact (h.nc c (of_decide_eq_true hy)).2
    | any => cases hy
    | none => exact h.nt "NoneType" (by simp)
    | bool _ => exact h.nt "bool" (by simp)
    | int _ => exact h.nt "int" (by simp)
    | str _ => exact h.nt "str" (by simp)
    | list _ => exact h.nt "list" (by simp)
    | tuple _ => exact h.nt "tuple" (by simp)
    | dict _ => exact h.nt "dict" (by simp)
    | dicT _ => exact h.nt "dict" (by simp)
    | tag _ _ => exact h.nt "list" (by simp)
theorem call_sp0 {M : List Addr} {σ : L2.St} {H H1 : Hp} {δ : Sl} {n1 : Nat} {ws : List W} {vs : List V} {Q : VK} {g : FFn} (s1 : Kp F M H H1) (ok1 : Ok F M σ H1 δ n1) (v1 : VOks F M H1 vs ws) (ha : ws.all W.arg = true)
    (q : (g ws).wp n1 (fun d n2 => ∀ v H', Kp F M H H' → Ok F M σ H' δ n2 → DV F.K (hid M H') v d → Q v H') (fun _ _ => False)) : spF F.K g vs H1 Q (fun _ _ _ => False) := by
  refine ⟨FL.sub F M H1, n1, ws, rfl, rfl, ok1.ent v1 ha, T.wp_mono (fun d n2 q2 v H2 r => ?_) (fun x n2 z cls d M' σ' H2 δ' r hx => z) _ _ q⟩
  obtain ⟨h1, h2⟩ := ok1.retS r.toRetB
  exact q2 v H2 (s1.trans h1) h2 r.val
theorem eqw_to {neg : Bool} {tb : List EqE} {f1 f2 : FE} {Z : ZF} {r0 : R2} {P : Program} {w : World} {mg : Str → Option Value} {base : Heap} (hT : EqTab P w F.K mg base k tb) (hP : X.prog = P) (hw : X.w = w) (hm : X.mg = mg) (hB : X.base = base) (hK : X.K = F.K.K)
    (h0 : ∀ (M : List Addr) (H : Hp) (v u : V) (a b c : D) (Q : VK), (∀ p, H p = none → p ∉ M) → RV F.K M H v a → RV F.K M H u b → (if neg = true then dNe a b else dEq a b) = some c → (∀ w H', Same H H' → DV F.K (hid M H') w c → Q w H') → r0 v u H Q) :
    ∀ σ H Q, tE F Z (fEqW neg tb f1 f2) σ H Q → tOp (fun x y H Q => r0 x y H Q ∨ rOwn X k neg x y H Q) (tE F Z f1) (tE F Z f2) σ H Q := fun σ H Q ⟨M, δ, n, ok, q⟩ =>
  goE ok ((T.wp_bind _ _).mp q) fun a n1 v H1 q1 s1 ok1 v1 => goE ok1 ((T.wp_bind _ _).mp q1) fun b n2 u H2 q2 s2 ok2 v2 => by
    subst hP hw hm hB
    have flat : (eqFlat neg a b).wp n2 (fun w n' => ∀ v H', Kp F M H H' → Ok F M σ H' δ n' → VOk F M H' v w → Q v H') (fun x n' => Z x n' δ) → r0 v u H2 Q := fun q2 => by
      obtain ⟨x, ex, q3⟩ := rd_cases ((T.wp_bind _ _).mp q2)
      obtain ⟨y, ey, q4⟩ := rd_cases ((T.wp_bind _ _).mp q3)
      obtain ⟨z, ez, q5⟩ := T.wp_of.mp ((T.wp_bind _ _).mp q4)
      exact h0 M H2 v u x y z Q (fun p hp => ok2.fresh hp) (RV.kp rfl s2 v1 ex) (RV.kp rfl Kp.refl v2 ey) ez fun w H' s d => q5 w H' (s1.trans (s2.trans (Kp.of s))) (ok2.same s) d
    by_cases ho : ∃ c fs, a = .d (.obj c fs)
    · obtain ⟨c, fs, rfl⟩ := ho
      right
      rw [eqW_o] at q2
      cases hf : tb.find? (fun e => e.c == c) with
      | none =>
        rw [hf] at q2
        exact q2.elim
      | some e =>
        rw [hf] at q2
        have he := List.mem_of_find?_eq_some hf
        have ec : e.c = c := by
          have := List.find?_some hf
          simpa using this
        subst ec
        have hE := hT e he
        match b, q2, v2 with
        | .d y, q2, v2 =>
          obtain ⟨hy, q3⟩ := wp_if q2
          obtain ⟨f, fd, ps, FG, E0, hb⟩ := hE.ex
          have v1' : VOk F M H2 v (.d (.obj e.c fs)) := VOk.kp s2 v1
          obtain ⟨a, dx, gs, rfl, ea, _⟩ := RV.obj (.dat v1')
          obtain ⟨ty, nf⟩ := notF hE hy (.dat v2 : RV F.K M H2 u y)
          rw [← hK] at E0 FG hb ty nf
          refine ⟨a, _, dx, f, gs, fd, ps, _, spF F.K e.g, rfl, ea, E0, FG, hb, ty, nf, call_sp0 (Kp.trans s1 s2) ok2 (.cons v1' (.cons v2 .nil)) rfl (T.wp_mono (fun d n3 q4 vv H3 k3 ok3 dv => ?_) (fun _ _ z => z) _ _ ((T.wp_noex _ _).mp ((T.wp_bind _ _).mp q3)))⟩
          cases d with
          | bool t =>
            cases dv
            exact ⟨t, rfl, q4 (.bl _) H3 k3 ok3 (.bl _)⟩
          | _ => exact q4.elim
        | .ln y, q2, v2 => exact q2.elim
        | .wl, q2, v2 => exact q2.elim
        | .fn, q2, v2 => exact q2.elim
        | .xc y, q2, v2 => exact q2.elim
        | .al _, q2, v2 => exact q2.elim
    · left
      refine flat ?_
      cases a with
      | d x =>
        cases x with
        | obj c fs => exact absurd ⟨c, fs, rfl⟩ ho
        | _ => exact q2
      | _ => exact q2
theorem op_ownB (hr : RoomG (k + 1) X.A) : ∀ neg : Bool, OpR X (compareOp (if neg then .NotEq else .Eq)) (rOwn X k neg)
  | true => op_ownNe hr
  | false => op_ownEq hr
theorem flat_eq (hu : X.A.units + 64 < cLine) (hK : X.K = F.K.K) : ∀ neg : Bool, ∃ r : R2, OpR X (compareOp (if neg then .NotEq else .Eq)) r ∧ ∀ (M : List Addr) (H : Hp) (v u : V) (a b c : D) (Q : VK), (∀ p, H p = none → p ∉ M) → RV F.K M H v a → RV F.K M H u b → (if neg = true then dNe a b else dEq a b) = some c → (∀ w H', Same H H' → DV F.K (hid M H') w c → Q w H') → r v u H Q
  | true => od_ne (K := F.K) hu hK
  | false => od_eq (K := F.K) hu hK
variable {j : Nat} {a b : Expr} {f1 f2 : FE} {tb : List EqE} {pos : Pos}
theorem pf_eqw (hT : EqTab X.prog X.w F.K X.mg X.base j tb) (hr : RoomG k X.A) (hj : j + 1 ≤ k) (ha : PF X F a f1) (hb : PF X F b f2) (hm : behindInMarks .Eq b = false) (hK : X.K = F.K.K := by rfl) : PF X F (.Compare a [.Eq] [b] pos) (fEqW false tb f1 f2) := by
  obtain ⟨r, h1, h2⟩ := flat_eq (F := F) hr.toRoom.units hK false
  exact ⟨fun Z tk => pe_to (pe_cmpR (opR_or h1 (op_ownB (hr.mono hj) false)) (ha.pe Z tk) (hb.pe Z tk) hm) (eqw_to hT rfl rfl rfl rfl hK h2)⟩
theorem pf_new (hT : EqTab X.prog X.w F.K X.mg X.base j tb) (hr : RoomG k X.A) (hj : j + 1 ≤ k) (ha : PF X F a f1) (hb : PF X F b f2) (hm : behindInMarks .NotEq b = false) (hK : X.K = F.K.K := by rfl) : PF X F (.Compare a [.NotEq] [b] pos) (fEqW true tb f1 f2) := by
  obtain ⟨r, h1, h2⟩ := flat_eq (F := F) hr.toRoom.units hK true
  exact ⟨fun Z tk => pe_to (pe_cmpR (opR_or h1 (op_ownB (hr.mono hj) true)) (ha.pe Z tk) (hb.pe Z tk) hm) (eqw_to hT rfl rfl rfl rfl hK h2)⟩
theorem pft_eqw (hT : EqTab X.prog X.w F.K X.mg X.base j tb) (hr : RoomG k X.A) (hj : j + 1 ≤ k) (ha : PF X F a f1) (hb : PF X F b f2) (hm : behindInMarks .Eq b = false) (hK : X.K = F.K.K := by rfl) : PFT X F (.Compare a [.Eq] [b] pos) (fVal (fEqW false tb f1 f2)) := by
  obtain ⟨r, h1, h2⟩ := flat_eq (F := F) hr.toRoom.units hK false
  exact ⟨fun Z tk => pt_to (pt_cmpR (opR_or h1 (op_ownB (hr.mono hj) false)) (ha.pe Z tk) (hb.pe Z tk) hm) fun σ H Q ⟨M, δ, n, ok, q⟩ => eqw_to hT rfl rfl rfl rfl hK h2 σ H _ (val_to ok q)⟩
theorem pft_new (hT : EqTab X.prog X.w F.K X.mg X.base j tb) (hr : RoomG k X.A) (hj : j + 1 ≤ k) (ha : PF X F a f1) (hb : PF X F b f2) (hm : behindInMarks .NotEq b = false) (hK : X.K = F.K.K := by rfl) : PFT X F (.Compare a [.NotEq] [b] pos) (fVal (fEqW true tb f1 f2)) := by
  obtain ⟨r, h1, h2⟩ := flat_eq (F := F) hr.toRoom.units hK true
  exact ⟨fun Z tk => pt_to (pt_cmpR (opR_or h1 (op_ownB (hr.mono hj) true)) (ha.pe Z tk) (hb.pe Z tk) hm) fun σ H Q ⟨M, δ, n, ok, q⟩ => eqw_to hT rfl rfl rfl rfl hK h2 σ H _ (val_to ok q)⟩
end
end FL

/-! x[::-1]; list(text); text * int. -/
namespace FL
open PySem PySem.Spec PyProof.Rows L2 Gd Fx Stp LamX Lm
/-! ### x[::-1] of a text, of a list -/
theorem rev_signs (x : Str) : (Builtin.Str.strSliceIndices none none (-1) x.length).filterMap (x.cps[·]?) = x.cps.toList.reverse := by
  have e : Builtin.Str.strSliceIndices none none (-1) x.length = sliceRange ((x.cps.size : Int) - 1) (-1) (-1) := rfl
  rw [e, PySem.W.krv_sliceRange, PySem.W.krv_range, List.filterMap_reverse, PySem.W.krv_all]
def revS (x : Str) : Str := ⟨x.cps.toList.reverse.toArray⟩
section
variable {X : Cx}
/-- what x[::-1] asks -/
def rRev (K : PySem.W.Frag) (v : V) (H : Hp) (Q : VK) : Prop := (∃ a xs, v = .ref a ∧ SqL K H a xs ∧ ∀ p, H p = none → Q (.ref p) (upd H p (.lst xs.reverse))) ∨ ∃ x : Str, v = .str x ∧ x.length ≤ sizeLine ∧ Q (.str (revS x)) H
theorem pe_rev {e : Expr} {te : TE} {k : Nat} {p1 p2 p3 pos : Pos} (he : PE X e te) : PE X (.Subscript e (.Slice none none (some (.UnaryOp .USub (.Constant (.int 1) k p1) p2)) p3) pos) (fun σ H Q => te σ H fun v H1 => rRev X.K v H1 Q) := by
  have hst : PO X (some (.UnaryOp .USub (.Constant (.int 1) k p1) p2)) (tPart (tUn (rU fun i => .int (-i)) (tC (.int 1)))) := po_some (pe_un un_neg pe_int)
  refine ⟨fun pins s σ H Q I h => Subscript_ (thn (he.run pins s σ H _ I h) fun v s1 ⟨x, H1, I1, r1, q1⟩ => wpAny_Slice ?_)⟩
  refine thn (po_none.run pins s1 σ H1 (fun o H2 => o = none ∧ H2 = H1) I1 ⟨rfl, rfl⟩) fun vl s2 ⟨l, H2, I2, pl, el, e2⟩ => ?_
  cases el
  cases e2
  refine thn (po_none.run pins s2 σ H1 (fun o H3 => o = none ∧ H3 = H1) I2 ⟨rfl, rfl⟩) fun vu s3 ⟨u, H3, I3, pu, eu, e3⟩ => ?_
  cases eu
  cases e3
  refine thn (hst.run pins s3 σ H1 (fun o H4 => o = some (-1) ∧ H4 = H1) I3 ⟨1, rfl, -1, rfl, rfl, rfl⟩) fun vs s4 ⟨o, H4, I4, ps, eo, e4⟩ => ?_
  cases eo
  cases e4
  obtain ⟨s5, es5⟩ : ∃ s5 : Shared, s5 = { s4 with heap := s4.heap.push { cls := .type "slice", data := .fields #[vl, vu, vs] } } := ⟨_, rfl⟩
  have I5 : L2.Inv X pins σ H1 s5 := by
    rw [es5]
    exact I4.kept (t' := s4.toks) fun b ob q => Heap.get?_push_of_some _ q
  show wpAny (model X.prog X.w) X.A (subscriptTail e (.Slice none none (some (.UnaryOp .USub (.Constant (.int 1) k p1) p2)) p3) v (.ref s4.heap.objs.size)) (EP X pins σ Q) X.xe { s4 with heap := s4.heap.push { cls := .type "slice", data := .fields #[vl, vu, vs] } }
  rcases q1 with ⟨a, xs, rfl, hx, q⟩ | ⟨z, rfl, hz, q⟩
  · cases r1
    obtain ⟨its, r, ht, hz⟩ := I5.list hx
    rw [es5] at ht
    refine tail_any (ops := [.ref a, .ref s4.heap.objs.size]) ht.isList.typeIs (PySem.slot_list_getitem.lookup) ?_ (by with_unfolding_all rfl)
    refine wpAny_getItem_list_slice ht.isList (Heap.IsSliceOf.new _ vl vu vs) pl pu ps (by decide) ?_ (by rw [List.size_toArray, ← r.length]; exact hz)
    rw [PySem.W.krv_pick, ← es5]
    exact ⟨.ref s5.heap.objs.size, _, I5.laid (t' := s5.toks) (o := .lst xs.reverse) (fun b ob q => Heap.get?_push_of_some _ q) (Nat.le_refl _) ⟨by rw [List.length_reverse]; exact hz, _, 0, r.reverse, Heap.get?_push_size _ rfl⟩, rfl, q _ (I5.hok.fresh (Nat.le_refl _))⟩
  · obtain ⟨t, rfl⟩ := r1
    refine tail_any (ops := [.str z t, .ref s4.heap.objs.size]) (typeIs_str _ _ _) (F.slot_str_getitem.lookup) ?_ (by with_unfolding_all rfl)
    obtain ⟨l, rfl, el⟩ := IsPart.raw pl
    obtain ⟨u, rfl, eu⟩ := IsPart.raw pu
    obtain ⟨st, rfl, est⟩ := IsPart.raw ps
    obtain rfl : l = none := by cases l <;> simp_all
    obtain rfl : u = none := by cases u <;> simp_all
    obtain ⟨stt, rfl⟩ : ∃ tk, st = some (-1, tk) := by
      cases st with
      | none => simp at est
      | some p =>
        obtain ⟨i, tk⟩ := p
        simp at est
        exact ⟨tk, by rw [est]⟩
    obtain ⟨os, hos, hcs, hds⟩ := Heap.IsSliceOf.new s4.heap (partValue none) (partValue none) (partValue (some (-1, stt)))
    refine wpAny_getItem_str_slice (l := none) (u := none) (st := some (-1, stt)) ⟨os, hos, hcs, hds⟩ rfl ?_
    rw [← es5]
    have hl : (revS z).length ≤ sizeLine := by
      show z.cps.toList.reverse.toArray.size ≤ sizeLine
      rw [List.size_toArray, List.length_reverse, Array.length_toList]
      exact hz
    show Made.post (if ((-1 : Int) == 1 && (slicePicked z none none (some (-1, stt))).length == z.length) = true then Made.val (.str z t) else Made.str ⟨((Builtin.Str.strSliceIndices none none (-1) z.length).filterMap (z.cps[·]?)).toArray⟩) (EP X pins σ Q) s5
    rw [if_neg (by simp), rev_signs]
    exact ⟨hl, .str _, H1, I5.tok _, ⟨_, rfl⟩, q⟩
/-! ### list(text) -/
theorem vals_signs : ∀ (cs : List Nat) (us : List Value), us.length = cs.length → (∀ (j : Nat) (v : Value), us[j]? = some v → ∃ (c : Nat) (u : Tok), cs[j]? = some c ∧ v = Value.str ⟨#[c]⟩ u) → Vals (cs.map fun c => V.str ⟨#[c]⟩) us
  | [], [], _, _ => .nil
  | [], _ :: _, h, _ => by cases h
  | _ :: _, [], h, _ => by cases h
  | c :: cs, v :: us, h, k => by
    refine .cons ?_ (vals_signs cs us (Nat.succ.inj h) fun j w e => k (j + 1) w e)
    obtain ⟨c', u, e1, rfl⟩ := k 0 v rfl
    cases e1
    exact ⟨u, rfl⟩
theorem call_listS (hc : X.calm = true) : CallR X (.type "list") (fun xs H Q => ∃ x : Str, xs = [.str x] ∧ x.length ≤ sizeLine ∧ ∀ l, H l = none → Q (.ref l) (upd H l (.lst (x.cps.toList.map fun c => V.str ⟨#[c]⟩)))) := by
  intro pins s σ H xs us Q I r h
  obtain ⟨x, rfl, hx, q⟩ := h
  obtain ⟨u, rfl, rx⟩ := vals1 r
  obtain ⟨t, rfl⟩ := rx
  refine call_list_str (I.ok.hd hc) x t (fun h' tk acc' c' hk e hi => ?_) hx
  refine ⟨.ref s.heap.objs.size, _, I.laid (t' := tk) hk (Nat.le_refl _) (show ObjOk X.prog X.w _ h' _ (.lst (x.cps.toList.map fun c => V.str ⟨#[c]⟩)) from ⟨by rw [List.length_map, Array.length_toList]; exact hx, acc'.toList, c', vals_signs _ _ (by rw [Array.length_toList, Array.length_toList]; exact hi.1) (fun j v e => ?_), e⟩), rfl, q _ (I.hok.fresh (Nat.le_refl _))⟩
  obtain ⟨c, u, e1, e2⟩ := hi.2 j v (by rw [← Array.getElem?_toList]; exact e)
  exact ⟨c, u, by rw [Array.getElem?_toList]; exact e1, e2⟩
end
/-! ### as functions of the slots -/
def dRev : D → Option D
  | .list ds => some (.list ds.reverse)
  | .str x => if x.length ≤ 1000000 then some (.str (revS x)) else none
  | _ => none
def fRev (f : FE) : FE := fun δ => (f δ).bind fun w => w.rd.bind fun x => (T.of (dRev x)).bind fun d => .ret (.d d)
@[simp] theorem fRev_def (f : FE) (δ : Sl) : fRev f δ = (f δ).bind fun w => w.rd.bind fun x => (T.of (dRev x)).bind fun d => .ret (.d d) := rfl
@[simp] theorem dRev_l (ds : List D) : dRev (.list ds) = some (.list ds.reverse) := rfl
@[simp] theorem dRev_s (x : Str) : dRev (.str x) = if x.length ≤ 1000000 then some (.str (revS x)) else none := rfl
theorem DVs.rev {K : Kx} {G : Hp} : ∀ {vs : List V} {ds : List D}, DVs K G vs ds → DVs K G vs.reverse ds.reverse
  | _, _, .nil => .nil
  | v :: vs, d :: ds, .cons h t => by
    rw [List.reverse_cons, List.reverse_cons]
    exact t.rev.append (.cons h .nil)
section
variable {X : Cx} {F : Fc} {e : Expr} {f : FE} {k : Nat} {p1 p2 p3 pos : Pos}
theorem pf_rev (he : PF X F e f) (hK : X.K = F.K.K := by rfl) : PF X F (.Subscript e (.Slice none none (some (.UnaryOp .USub (.Constant (.int 1) k p1) p2)) p3) pos) (fRev f) :=
  ⟨fun Z tk => pe_to (pe_rev (he.pe Z tk)) fun σ H Q ⟨M, δ, n, ok, q⟩ => goE ok ((T.wp_bind _ _).mp q) fun w n1 v H1 q1 s1 ok1 v1 => by
    obtain ⟨x, hx, q2⟩ := rv_rd v1 ((T.wp_bind _ _).mp q1)
    obtain ⟨d, ed, q3⟩ := T.wp_of.mp ((T.wp_bind _ _).mp q2)
    match x, hx, ed with
    | .list ds, hx, ed =>
      cases ed
      obtain ⟨a, vs, rfl, h1, h2⟩ := hx.list
      exact .inl ⟨a, vs, rfl, SqL.of h1, fun p hp => q3 _ _ (s1.trans (Kp.of (same1 hp))) (ok1.same (same1 hp)) (.lst (hid_mk (ok1.fresh hp) upd_same) (h2.rev.same (hid_same (same1 hp))))⟩
    | .str x, hx, ed =>
      obtain ⟨l, rfl⟩ := iteSome (show (if x.length ≤ 1000000 then some (D.str (revS x)) else none) = some d from ed)
      cases hx.str
      exact .inr ⟨x, rfl, big l, q3 _ H1 s1 ok1 (.str _)⟩⟩
end
def gList2 : List D → Option D
  | [.list ds] => some (.list ds)
  | [.tuple ds] => some (.list ds)
  | [.str x] => if x.length ≤ 1000000 then some (.list (signs x)) else none
  | _ => none
@[simp] theorem gList2_l (ds : List D) : gList2 [.list ds] = some (.list ds) := rfl
@[simp] theorem gList2_t (ds : List D) : gList2 [.tuple ds] = some (.list ds) := rfl
@[simp] theorem gList2_s (x : Str) : gList2 [.str x] = if x.length ≤ 1000000 then some (.list (signs x)) else none := rfl
theorem dvs_signs {K : Kx} {G : Hp} : ∀ cs : List Nat, DVs K G (cs.map fun c => V.str ⟨#[c]⟩) (cs.map fun c => D.str ⟨#[c]⟩)
  | [] => .nil
  | c :: cs => .cons (.str _) (dvs_signs cs)
theorem callR_or {X : Cx} {f : Value} {r r' : List V → Hp → VK → Prop} (h : CallR X f r) (h' : CallR X f r') : CallR X f (fun xs H Q => r xs H Q ∨ r' xs H Q) := fun pins s σ H xs us Q I rs q => q.elim (h pins s σ H xs us Q I rs) (h' pins s σ H xs us Q I rs)
theorem cd_list2 {X : Cx} {K : Kx} (hc : X.calm = true) : CallF X K (.type "list") gList2 := fun hK => by
  refine ⟨_, callR_or call_list_of (call_listS hc), fun M H vs as c Q fr ha e q => ?_⟩
  match as, ha, e with
  | [.list ds], ha, e =>
    obtain ⟨v, rfl, h⟩ := ha.one
    cases e
    obtain ⟨a, vs, rfl, h1, h2⟩ := h.list
    exact .inl ⟨_, vs, rfl, .inl (SqL.of h1), fun p hp => q _ _ (same1 hp) (.lst (hid_mk (fr p hp) upd_same) (h2.same (hid_same (same1 hp))))⟩
  | [.tuple ds], ha, e =>
    obtain ⟨v, rfl, h⟩ := ha.one
    cases e
    obtain ⟨a, vs, rfl, h1, h2, t⟩ := h.tuple
    exact .inl ⟨_, vs, rfl, .inr (by rw [hK]; exact h1), fun p hp => q _ _ (same1 hp) (.lst (hid_mk (fr p hp) upd_same) (h2.same (hid_same (same1 hp))))⟩
  | [.str x], ha, e =>
    obtain ⟨v, rfl, h⟩ := ha.one
    obtain ⟨l, rfl⟩ := iteSome (show (if x.length ≤ 1000000 then some (D.list (signs x)) else none) = some c from e)
    cases h.str
    exact .inr ⟨x, rfl, big l, fun p hp => q _ _ (same1 hp) (.lst (hid_mk (fr p hp) upd_same) (dvs_signs _))⟩
end FL

/-! Comprehensions of two clauses. -/
namespace FL
open PySem PySem.Spec PyProof.Rows L2 Gd Fx Stp LamX Lm
/-- the second clause: at most B items each time -/
def innerL (B : Nat) (fs1 : FI) (p1 : Tg) (vs1 : List Nat) (ft1 : FT) (fe : FE) : Sl → R (List D) := fun δ1 => if noOwns δ1 vs1 = true then (fs1 δ1).bind fun ys => if ys.length ≤ B then itemsL p1 (wipeD δ1 vs1) ft1 (fOne fe) ys else .bad else .bad
def fLc2 (B : Nat) (fs : FI) (p : Tg) (vs : List Nat) (ft : FT) (fs1 : FI) (p1 : Tg) (vs1 : List Nat) (ft1 : FT) (fe : FE) : FE := fun δ => if noOwns δ vs = true then (fs δ).bind fun xs => if xs.length * B ≤ 10000000 then ((itemsL p (wipeD δ vs) ft (innerL B fs1 p1 vs1 ft1 fe) xs).noex).bind fun ys => .ret (.d (.list ys)) else .bad else .bad
@[simp] theorem innerL_def (B : Nat) (fs1 : FI) (p1 : Tg) (vs1 : List Nat) (ft1 : FT) (fe : FE) (δ1 : Sl) : innerL B fs1 p1 vs1 ft1 fe δ1 = if noOwns δ1 vs1 = true then (fs1 δ1).bind fun ys => if ys.length ≤ B then itemsL p1 (wipeD δ1 vs1) ft1 (fOne fe) ys else .bad else .bad := rfl
@[simp] theorem fLc2_def (B : Nat) (fs : FI) (p : Tg) (vs : List Nat) (ft : FT) (fs1 : FI) (p1 : Tg) (vs1 : List Nat) (ft1 : FT) (fe : FE) (δ : Sl) : fLc2 B fs p vs ft fs1 p1 vs1 ft1 fe δ = if noOwns δ vs = true then (fs δ).bind fun xs => if xs.length * B ≤ 10000000 then ((itemsL p (wipeD δ vs) ft (innerL B fs1 p1 vs1 ft1 fe) xs).noex).bind fun ys => .ret (.d (.list ys)) else .bad else .bad := rfl
/-- the target's slots set: what is one's own stays where it is -/
def OwnSame (δ' δ : Sl) (σ' σ : L2.St) : Prop := ∀ (i : Nat) (y : D), δ'[i]? = some (some (S.own y)) → δ[i]? = some (some (S.own y)) ∧ σ'[i]? = σ[i]?
theorem ownSame_set {δ' δ : Sl} {σ' σ : L2.St} {i : Nat} {v : V} {d : D} (h : OwnSame δ' (δ.set i (some (S.v (.d d)))) σ' (σ.set i (some v))) : OwnSame δ' δ σ' σ := fun j y e => by
  obtain ⟨h1, h2⟩ := h j y e
  rcases set_cases h1 with ⟨rfl, eq, _⟩ | ⟨ne, e'⟩
  · cases eq
  · exact ⟨e', by rw [h2, List.getElem?_set_ne ne]⟩
theorem put_run2 {F : Fc} {M : List Addr} {H : Hp} {n : Nat} {E : L2.St → Hp → Prop} {δ' : Sl} : ∀ (is : List Nat) (vs : List V) (ds : List D) (σ : L2.St) (δ : Sl), DVs F.K (hid M H) vs ds → putAll δ is ds = some δ' → Ok F M σ H δ n → (∀ σ', Ok F M σ' H δ' n → OwnSame δ' δ σ' σ → E σ' H) → gTs is vs σ H E
  | [], _, _, σ, δ, .nil, e, ok, k => by
    cases e
    exact ⟨rfl, k σ ok fun _ _ z => ⟨z, rfl⟩⟩
  | i :: is, _, _, σ, δ, .cons (v := v) (d := d) h t, e, ok, k => ⟨_, _, rfl, put_run2 is _ _ _ _ t e (ok.set (w := .d d) h fun _ => nol_d) fun σ' ok' os => k σ' ok' (ownSame_set os)⟩
  | [], _, _, σ, δ, .cons _ _, e, _, _ => by cases e
  | _ :: _, _, _, σ, δ, .nil, e, _, _ => by cases e
theorem gOf_run2 {K : PySem.W.Frag} {p : Tg} {F : Fc} {M : List Addr} {H : Hp} {n : Nat} {σ : L2.St} {δ : Sl} {v : V} {d : D} {δ' : Sl} {E : L2.St → Hp → Prop} (hK : K = F.K.K) (ok : Ok F M σ H δ n) (hv : DV F.K (hid M H) v d) (e : putT p δ d = some δ') (k : ∀ σ', Ok F M σ' H δ' n → OwnSame δ' δ σ' σ → E σ' H) : gOf K p v σ H E := by
  match p, d, hv, e with
  | .one i, d, hv, e =>
    cases e
    exact k _ (ok.set (w := .d d) hv fun _ => nol_d) (ownSame_set (fun _ _ z => ⟨z, rfl⟩))
  | .many is, .tuple ds, .tup h1 h2, e =>
    exact .inl ⟨_, _, rfl, by rw [hK]; exact seqT hid_to h1, h2.length.trans (putAll_len e), put_run2 is _ _ σ δ h2 e ok k⟩
  | .many is, .list ds, .lst h1 h2, e =>
    exact .inr ⟨_, _, rfl, SqL.of (hid_to _ _ h1), h2.length.trans (putAll_len e), put_run2 is _ _ σ δ h2 e ok k⟩
section
variable {X : Cx} {F : Fc} {fs fs1 : FI} {ft ft1 : FT} {fe : FE} {p p1 : Tg} {vs vs1 : List Nat} {B : Nat} {elt iter tg iter1 tg1 : Expr} {ifs ifs1 : List Expr} {scope : Scope} {pos : Pos}
theorem sl_lt {n : Nat} (h : n < 10000000) : n < sizeLine := Nat.lt_trans h (by decide)
theorem lc2_run {Z : ZF} (hsub : p.sub vs = true) (hsub1 : p1.sub vs1 = true) (hK : X.K = F.K.K) :
    ∀ σ H Q, tE F Z (fLc2 B fs p vs ft fs1 p1 vs1 ft1 fe) σ H Q → tLc2 (tI F Z fs) (gOf X.K p) (tT F (fun _ _ _ => False) ft) (tI F (fun _ _ _ => False) fs1) (gOf X.K p1) (tT F (fun _ _ _ => False) ft1) (tE F (fun _ _ _ => False) fe) vs vs1 σ H Q := fun σ H Q ⟨M, δ, n, ok, q0⟩ => by
  obtain ⟨hno, q⟩ := wp_if q0
  refine ⟨M, δ, n, ok, T.wp_mono (fun xs n1 q1 J H1 s1 ok1 src => ?_) (fun _ _ z => z) _ _ ((T.wp_bind _ _).mp q)⟩
  obtain ⟨hl, q1⟩ := wp_if q1
  have q2 := (T.wp_noex _ _).mp ((T.wp_bind _ _).mp q1)
  intro Dd hD
  obtain ⟨okD, sD⟩ := ok1.add (p := Dd) (o := .lst []) hD (same1 hD) upd_same
  have okW := okD.wipe vs
  have hDM : Dd ∉ M := ok1.fresh hD
  have hD0 : Dd ∉ F.M0 := fun z => hDM (ok1.sub Dd z)
  have hDw : ∀ q, F.wl = some q → Dd ≠ q.1 := fun q e z => hD0 (by rw [z]; exact (ok1.wel q e).1)
  have own_ne : ∀ {δ2 : Sl} {σ2 : L2.St} {H2 : Hp} {n2 : Nat} {vs2 : List Nat}, Ok F M σ2 H2 δ2 n2 → ∀ (j : Nat) (y : D), (wipeD δ2 vs2)[j]? = some (some (S.own y)) → (L2.wipe σ2 vs2)[j]? ≠ some (some (V.ref Dd)) := fun {δ2 σ2 H2 n2 vs2} okm j y e e2 => by
    have e2' := (wipe_some e2).1
    obtain ⟨q, o, g1, g2, _⟩ := okm.own j y (wipeD_at e)
    rw [e2'] at g1
    cases g1
    exact hDM g2
  have ntl : ∀ {vl : List V} (ps), HO.lst vl ≠ HO.tbl ps := fun ps z => by cases z
  let Qe : List D → Nat → Prop := fun ys n2 => ∀ v H', Kp F M H H' → Ok F M σ H' δ n2 → VOk F M H' v (.d (.list ys)) → Q v H'
  let gi := innerL B fs1 p1 vs1 ft1 fe
  let St : Nat → Hp → Prop := fun j H2 => ∃ (acc : List D) (n2 : Nat) (vl : List V), Ok F (Dd :: M) (L2.wipe σ vs) H2 (wipeD δ vs) n2 ∧ H2 Dd = some (.lst vl) ∧ DVs F.K (hid (Dd :: M) H2) vl acc ∧ acc.length ≤ j * B ∧ Same (hid M H1) (hid (Dd :: M) H2) ∧ (∀ p ∈ M, (∀ q, F.wl = some q → p ≠ q.1) → ∀ o, (∀ ps, o ≠ HO.tbl ps) → H1 p = some o → H2 p = some o) ∧
    (itemsL p (wipeD δ vs) ft gi (xs.drop j)).wp n2 (fun ys n3 => Qe (acc ++ ys) n3) (fun _ _ => False)
  refine ⟨fun j m H2 => m = xs.length - j ∧ j ≤ xs.length ∧ St j H2, ⟨_, rfl, Nat.zero_le _, [], n1, [], okW, upd_same, .nil, Nat.zero_le _, sD, fun p hp _ o _ e => same1 hD _ _ e, q2⟩, ?_⟩
  rintro j m H2 ⟨rfl, hj, acc, n2, vl, ok2, e2, v2, hacc, se, sf, q3⟩
  by_cases hlt : j < xs.length
  · have hB : (j + 1) * B ≤ xs.length * B := Nat.mul_le_mul_right B hlt
    have hB1 : (j + 1) * B = j * B + B := Nat.succ_mul j B
    refine .inr ⟨src.goes j _ H2 hlt se, St (j + 1), fun H' st => ⟨xs.length - (j + 1), by omega, rfl, hlt, st⟩, fun y H' yl => ?_⟩
    obtain ⟨s3, d, e1, d1⟩ := src.yields j _ H2 y H' hlt se (fun p hp => ok2.fresh hp) yl
    have ed : xs.drop j = d :: xs.drop (j + 1) := by
      rw [List.drop_eq_getElem_cons hlt]
      rw [List.getElem?_eq_getElem hlt] at e1
      rw [Option.some.inj e1]
    rw [ed] at q3
    obtain ⟨δ1, e3, q4⟩ := wp_items q3
    have hww : ∀ {E : L2.St → Hp → Prop}, gOf X.K p y (L2.wipe σ vs) H' E → gOf X.K p y (L2.wipe σ vs) H' fun σ2 H2 => L2.wipe σ2 vs = L2.wipe σ vs ∧ E σ2 H2 := fun h => by
      have := gOf_keep hsub h
      rw [wipe_wipe σ vs vs fun _ z => z] at this
      exact this
    have e2' : H' Dd = some (.lst vl) := s3 _ _ e2
    have okT0 := ok2.same s3
    refine hww (gOf_run2 hK okT0 d1 e3 fun σ2 okT os2 => ?_)
    -- the outer slots, carried along
    have outer : ∀ {H4 : Hp} {n4 : Nat} {σ4 : L2.St} {δ4 : Sl}, Kp F (Dd :: M) H' H4 → Ok F (Dd :: M) σ4 H4 δ4 n4 → Ok F (Dd :: M) (L2.wipe σ vs) H4 (wipeD δ vs) n4 := fun kp ok4 => okT0.back kp ok4.tab.1 ok4.al fun q eq => (ok4.wel q eq).2
    refine goT okT q4 fun c n3 H3 q5 s4 ok4 => iteMono (fun q6 => ?_) (fun q6 => ?_) q5
    · -- the second clause
      obtain ⟨hno1, q7⟩ := wp_if q6
      refine ⟨_, δ1, n3, ok4, T.wp_mono (fun ys n4 q8 J1 H4 s5 ok5 src1 => ?_) (fun _ _ z => z) _ _ ((T.wp_bind _ _).mp q7)⟩
      obtain ⟨hB2, q9⟩ := wp_if q8
      have kp04 := s4.trans s5
      have e4 : H4 Dd = some (.lst vl) := kp04.f _ (List.mem_cons_self ..) hDw _ ntl e2'
      let St1 : Nat → Hp → Prop := fun k H5 => ∃ (acc1 : List D) (n5 : Nat) (vl1 : List V), Ok F (Dd :: M) (L2.wipe σ vs) H5 (wipeD δ vs) n5 ∧ Ok F (Dd :: M) (L2.wipe σ2 vs1) H5 (wipeD δ1 vs1) n5 ∧ H5 Dd = some (.lst vl1) ∧ DVs F.K (hid (Dd :: M) H5) vl1 acc1 ∧ acc1.length ≤ j * B + k ∧ Same (hid M H1) (hid (Dd :: M) H5) ∧
        (∀ p ∈ M, (∀ q, F.wl = some q → p ≠ q.1) → ∀ o, (∀ ps, o ≠ HO.tbl ps) → H1 p = some o → H5 p = some o) ∧ Same (hid (Dd :: M) H4) (hid (Dd :: M) H5) ∧
        (itemsL p1 (wipeD δ1 vs1) ft1 (fOne fe) (ys.drop k)).wp n5 (fun zs n6 => (itemsL p (wipeD δ vs) ft gi (xs.drop (j + 1))).wp n6 (fun rs n7 => Qe (acc1 ++ (zs ++ rs)) n7) (fun _ _ => False)) (fun _ _ => False)
      have sD4 : Same (hid (Dd :: M) H2) (hid (Dd :: M) H4) := (hid_same s3).trans kp04.s
      have hDs1 : ∀ (i : Nat) (y : D), (wipeD δ1 vs1)[i]? = some (some (S.own y)) → (L2.wipe σ2 vs1)[i]? ≠ some (some (V.ref Dd)) := fun i y e e2 => by
        have e2' := (wipe_some e2).1
        have e' := wipeD_at e
        obtain ⟨g1, g2⟩ := os2 i y e'
        rw [g2] at e2'
        exact own_ne (vs2 := vs) ok1 i y g1 e2'
      have hDs0 : ∀ (i : Nat) (y : D), (wipeD δ vs)[i]? = some (some (S.own y)) → (L2.wipe σ vs)[i]? ≠ some (some (V.ref Dd)) := own_ne ok1
      refine ⟨fun k m H5 => m = ys.length - k ∧ k ≤ ys.length ∧ St1 k H5, ⟨_, rfl, Nat.zero_le _, acc, n4, vl, outer kp04 ok5, ok5.wipe vs1, e4, v2.same sD4, by omega, se.trans sD4, fun p hp hw o ho e => kp04.f p (List.mem_cons_of_mem _ hp) hw o ho (s3 _ _ (sf p hp hw o ho e)), Same.refl _, ?_⟩, ?_⟩
      · refine T.wp_mono (fun zs n6 h => T.wp_mono (fun rs n7 h2 => h2) (fun _ _ z => z) _ _ h) (fun _ _ z => z) _ _ q9
      · rintro k m H5 ⟨rfl, hk, acc1, n5, vl1, okO, okI, eD, v5, ha1, se1, sf1, sy1, q10⟩
        by_cases hlk : k < ys.length
        · refine .inr ⟨src1.goes k _ H5 hlk sy1, St1 (k + 1), fun H' st => ⟨ys.length - (k + 1), by omega, rfl, hlk, st⟩, fun z H6 yl1 => ?_⟩
          obtain ⟨s6, d6, e6, dv6⟩ := src1.yields k _ H5 z H6 hlk sy1 (fun p hp => okI.fresh hp) yl1
          have ed6 : ys.drop k = d6 :: ys.drop (k + 1) := by
            rw [List.drop_eq_getElem_cons hlk]
            rw [List.getElem?_eq_getElem hlk] at e6
            rw [Option.some.inj e6]
          rw [ed6] at q10
          obtain ⟨δ6, e7, q11⟩ := wp_items q10
          have hw1 : ∀ {E : L2.St → Hp → Prop}, gOf X.K p1 z (L2.wipe σ2 vs1) H6 E → gOf X.K p1 z (L2.wipe σ2 vs1) H6 fun σ3 H7 => L2.wipe σ3 vs1 = L2.wipe σ2 vs1 ∧ E σ3 H7 := fun h => by
            have := gOf_keep hsub1 h
            rw [wipe_wipe σ2 vs1 vs1 fun _ z => z] at this
            exact this
          have okI6 := okI.same s6
          have okO6 := okO.same s6
          have eD6 : H6 Dd = some (.lst vl1) := s6 _ _ eD
          have kI : ∀ {H7 : Hp} {n7 : Nat} {σ7 : L2.St} {δ7 : Sl}, Kp F (Dd :: M) H6 H7 → Ok F (Dd :: M) σ7 H7 δ7 n7 → Ok F (Dd :: M) (L2.wipe σ2 vs1) H7 (wipeD δ1 vs1) n7 ∧ Ok F (Dd :: M) (L2.wipe σ vs) H7 (wipeD δ vs) n7 := fun kp ok7 =>
            ⟨okI6.back kp ok7.tab.1 ok7.al fun q eq => (ok7.wel q eq).2, okO6.back kp ok7.tab.1 ok7.al fun q eq => (ok7.wel q eq).2⟩
          refine hw1 (gOf_run hK okI6 dv6 e7 fun σ3 okT3 => ?_)
          refine goT okT3 q11 fun c7 n7 H7 q12 s7 ok7 => iteMono (fun q13 => ?_) (fun q13 => ?_) q12
          · refine goE ok7 ((T.wp_bind _ _).mp q13) fun w n8 v H8 q14 s8 ok8 v8 => ?_
            obtain ⟨x, rfl, hv, q15⟩ := dv_dat v8 ((T.wp_bind _ _).mp q14)
            have kp := s7.trans s8
            obtain ⟨okI8, okO8⟩ := kI kp ok8
            have sD8 : Same (hid (Dd :: M) H5) (hid (Dd :: M) H8) := (hid_same s6).trans kp.s
            have e8 : H8 Dd = some (.lst vl1) := kp.f _ (List.mem_cons_self ..) hDw _ ntl eD6
            have hpk : hid (Dd :: M) (upd H8 Dd (.lst (vl1 ++ [v]))) = hid (Dd :: M) H8 := hid_poke (List.mem_cons_self ..)
            have hlen : acc1.length < 10000000 := by omega
            refine ⟨vl1, e8, by rw [v5.length]; exact sl_lt hlen, acc1 ++ [x], n8, vl1 ++ [v], okO8.poke (List.mem_cons_self ..) hD0 e8 (.lst (v5.same sD8)) hDs0, okI8.poke (List.mem_cons_self ..) hD0 e8 (.lst (v5.same sD8)) hDs1, upd_same, ?_, by rw [List.length_append]; show acc1.length + 1 ≤ j * B + (k + 1); omega, ?_, fun p hp hw o ho e => ?_, ?_, ?_⟩
            · rw [hpk]
              exact (v5.same sD8).append (.cons hv .nil)
            · rw [hpk]
              exact se1.trans sD8
            · rw [upd_ne fun z => hDM (by rw [← z]; exact hp)]
              exact kp.f p (List.mem_cons_of_mem _ hp) hw o ho (s6 _ _ (sf1 p hp hw o ho e))
            · rw [hpk]
              exact sy1.trans sD8
            · refine T.wp_mono (fun zs n9 h => T.wp_mono (fun rs n10 h2 => ?_) (fun _ _ z => z) _ _ h) (fun _ _ z => z) _ _ q15
              have h3 : Qe (acc1 ++ (([x] ++ zs) ++ rs)) n10 := h2
              rw [List.append_assoc [x] zs rs, ← List.append_assoc acc1 [x]] at h3
              exact h3
          · have sD7 : Same (hid (Dd :: M) H5) (hid (Dd :: M) H7) := (hid_same s6).trans s7.s
            obtain ⟨okI7, okO7⟩ := kI s7 ok7
            exact ⟨acc1, n7, vl1, okO7, okI7, s7.f _ (List.mem_cons_self ..) hDw _ ntl eD6, v5.same sD7, by omega, se1.trans sD7, fun p hp hw o ho e => s7.f p (List.mem_cons_of_mem _ hp) hw o ho (s6 _ _ (sf1 p hp hw o ho e)), sy1.trans sD7, q13⟩
        · have ek : k = ys.length := by omega
          subst ek
          rw [List.drop_length] at q10
          refine .inl ⟨src1.stops _ H5 sy1, acc1, n5, vl1, okO, eD, v5, by omega, se1, sf1, ?_⟩
          have q11 : (itemsL p (wipeD δ vs) ft gi (xs.drop (j + 1))).wp n5 (fun rs n7 => Qe (acc1 ++ ([] ++ rs)) n7) (fun _ _ => False) := q10
          exact q11
    · have sD3 : Same (hid (Dd :: M) H2) (hid (Dd :: M) H3) := (hid_same s3).trans s4.s
      exact ⟨acc, n3, vl, outer s4 ok4, s4.f _ (List.mem_cons_self ..) hDw _ ntl e2', v2.same sD3, by omega, se.trans sD3, fun p hp hw o ho e => s4.f p (List.mem_cons_of_mem _ hp) hw o ho (s3 _ _ (sf p hp hw o ho e)), q6⟩
  · have ej : j = xs.length := by omega
    subst ej
    rw [List.drop_length] at q3
    have sM : Same (hid M H1) (hid M H2) := se.trans (hid_sub fun p hp => List.mem_cons_of_mem _ hp)
    have kM : Kp F M H1 H2 := ⟨sM, sf⟩
    have q4 : Qe (acc ++ []) n2 := q3
    rw [List.append_nil] at q4
    exact .inl ⟨src.stops _ H2 se, q4 (.ref Dd) H2 (s1.trans kM) (ok1.unlc ok2 kM) (.lst (hid_mk hDM e2) (v2.same (hid_sub fun p hp => List.mem_cons_of_mem _ hp)))⟩
end
end FL

/-! zip of two texts of plain signs. -/
namespace FL
open PySem PySem.Spec PyProof.Rows L2 Gd Fx Stp LamX Lm
/-- an iterator over the text x, at its i-th sign -/
def TxIt (h : Heap) (it : Addr) (x : Str) (i : Nat) : Prop := ∃ o u, h.get? it = some o ∧ o.cls = .type "str_ascii_iterator" ∧ o.data = .fields #[.str x u, .int (i : Int) 0]
theorem TxIt.mv {h h' : Heap} {it : Addr} {x : Str} {i : Nat} (t : TxIt h it x i) (k : ∀ o, h.get? it = some o → h'.get? it = some o) : TxIt h' it x i := by
  obtain ⟨o, u, e, c, d⟩ := t
  exact ⟨o, u, k o e, c, d⟩
section
variable {prog : Program} {w : World} {A : Around} {E : Value → Shared → Prop} {s : Shared}
theorem nx_sign {it : Addr} {x : Str} {i c : Nat} {Q : Value → Shared → Prop} (hI : TxIt s.heap it x i) (hx : x.cps[i]? = some c)
    (hQ : ∀ h' u tk, TxIt h' it x (i + 1) → Heap.SameBut it s.heap h' → Q (.str ⟨#[c]⟩ u) { s with heap := h', toks := tk }) :
    wpAny (model prog w) A (Builtin.SmallTypes.nextOf (.ref it)) Q E s := by
  obtain ⟨o, u, ho, hc, hd⟩ := hI
  have hT : s.TypeIs (.ref it) "str_ascii_iterator" := ⟨o, ho, hc⟩
  unfold Builtin.SmallTypes.nextOf
  refine wpAny_bind (wpAny_callSpecial?_slot (name := Str.ofString "__next__") hT F.slot_str_ascii_iterator_next
    (wpAny_call_entry F.slot_str_ascii_iterator_next hT F.entry_str_ascii_iterator_next (show wpAny _ _ (field (.ref it) 0 >>= _) _ _ s from ?_) (F.args_str_ascii_iterator_next_1 _)))
  refine wpAny_bind (wpAny_field ho hd (x := .str x u) rfl (show wpAny _ _ (field (.ref it) 1 >>= _) _ _ s from wpAny_bind (wpAny_field ho hd (x := .int i 0) rfl ?_)))
  simp only [Int.toNat_natCast, hx]
  refine wpAny_bind (wpAny_setField ho hd (by simp) (wpAny_bind (wpAny_mkStr (wpAny_pure ⟨_, rfl, wpAny_pure (hQ _ _ _ ?_ (Heap.SameBut.update ..))⟩) (by show 1 ≤ sizeLine; decide))))
  exact ⟨_, u, Heap.get?_update_self _ ho (Obj.isFreed_of_fields (Obj.data_mapFields hd _)), (Obj.cls_mapFields ..).trans hc, by
    rw [Obj.data_mapFields hd]
    simp [rawInt]⟩
theorem nx_stop {it : Addr} {x : Str} {i : Nat} {Q : Value → Shared → Prop} (hh : A.handled = none) (hI : TxIt s.heap it x i) (hx : x.cps[i]? = none)
    (hE : ∀ h' e, Heap.ExtBut it s.heap h' → (∃ o, h'.get? e = some o ∧ o.cls = .type "StopIteration") → E (.ref e) { s with heap := h' }) :
    wpAny (model prog w) A (Builtin.SmallTypes.nextOf (.ref it)) Q E s := by
  obtain ⟨o, u, ho, hc, hd⟩ := hI
  have hT : s.TypeIs (.ref it) "str_ascii_iterator" := ⟨o, ho, hc⟩
  unfold Builtin.SmallTypes.nextOf
  refine wpAny_bind (wpAny_callSpecial?_slot (name := Str.ofString "__next__") hT F.slot_str_ascii_iterator_next
    (wpAny_call_entry F.slot_str_ascii_iterator_next hT F.entry_str_ascii_iterator_next (show wpAny _ _ (field (.ref it) 0 >>= _) _ _ s from ?_) (F.args_str_ascii_iterator_next_1 _)))
  refine wpAny_bind (wpAny_field ho hd (x := .str x u) rfl (show wpAny _ _ (field (.ref it) 1 >>= _) _ _ s from wpAny_bind (wpAny_field ho hd (x := .int i 0) rfl ?_)))
  simp only [Int.toNat_natCast, hx]
  refine wpAny_bind (wpAny_rule (wpAny_bind (wpAny_setField ho hd (by simp) (wpAny_bind (wpAny_letGo (show wpAny _ _ (newExc (.type "StopIteration") [] >>= _) _ _ _ from wpAny_bind ?_))))))
  simp only [newExc, newTuple, raiseNew]
  refine wpAny_bind (wpAny_newObj_type (wpAny_bind (m := firstArgMember _ _) (wpAny_of_eq (a := Value.none) (by first | rfl | (simp only [firstArgMember]; rfl)) (wpAny_newObj_type (wpAny_bind (wpAny_handled ?_)) (by size_fits)))) (by size_fits))
  first | rw [show A.in1.handled = none from hh] | rw [hh]
  exact wpAny_bind (wpAny_pure (wpAny_throw (hE _ _ (((Heap.SameBut.update ..).extBut.push _).push _) ⟨_, Heap.get?_push_size _ rfl, rfl⟩)))
/-- the five objects of a zip of two iterators -/
structure Z5 (z a b i j : Addr) : Prop where
  az : a ≠ z
  bz : b ≠ z
  iz : i ≠ z
  jz : j ≠ z
  ab : a ≠ b
  ai : a ≠ i
  aj : a ≠ j
  bi : b ≠ i
  bj : b ≠ j
  ij : i ≠ j
theorem zs_item {z a b i j : Addr} {k : Nat} {x y : Str} {c d : Nat} {v0 w0 : Value} {Q : Value → Shared → Prop} (D : Z5 z a b i j)
    (Hz : IsZip s.heap z a b .none) (Ha : IsPair s.heap a (.ref i) (.ref j)) (Hb : IsPair s.heap b v0 w0) (h1 : TxIt s.heap i x k) (h2 : TxIt s.heap j y k) (hx : x.cps[k]? = some c) (hy : y.cps[k]? = some d)
    (hQ : ∀ h' t1 t2 tk, IsZip h' z a b (rawInt s.heap.objs.size) → IsPair h' b (.str ⟨#[c]⟩ t1) (.str ⟨#[d]⟩ t2) → TxIt h' i x (k + 1) → TxIt h' j y (k + 1) → IsPair h' s.heap.objs.size (.str ⟨#[c]⟩ t1) (.str ⟨#[d]⟩ t2) → h'.objs.size = s.heap.objs.size + 1 →
      (∀ q o, q ≠ z → q ≠ b → q ≠ i → q ≠ j → s.heap.get? q = some o → h'.get? q = some o) → Q (.ref s.heap.objs.size) { s with heap := h', toks := tk }) :
    wpAny (model prog w) A (Builtin.«zip.__next__» ⟨[.ref z], []⟩) (fun r s2 => ∃ v, r = .done (.ret v) ∧ Q v s2) E s := by
  refine (show wpAny _ _ (field (.ref z) 2 >>= _) _ _ _ from wpAny_bind (wpAny_field Hz rfl (x := .bool false) rfl (show wpAny _ _ (field (.ref z) 3 >>= _) _ _ _ from wpAny_bind (wpAny_field Hz rfl (x := .ref a) rfl (wpAny_bind (wpAny_seqItems Ha rfl (show wpAny _ _ (Builtin.SmallTypes.ownedTupleIsFree (.ref z) >>= _) _ _ _ from wpAny_bind ?_)))))))
  unfold Builtin.SmallTypes.ownedTupleIsFree
  refine wpAny_bind (wpAny_field Hz rfl (x := .none) rfl (wpAny_pure ?_))
  simp only [if_true]
  refine wpAny_bind (wpAny_rule (wpAny_bind (wpAny_field Hz rfl (x := .ref b) rfl (wpAny_bind (wpAny_setField_rec Hz (by simp) fun g1 Hz1 e1 => ?_)))))
  have Z1 : IsZip g1 z a b .ellipsis := Hz1
  refine wpAny_bind ?_
  simp only [List.zipIdx_cons, List.zipIdx_nil, List.forIn_cons, List.forIn_nil]
  refine wpAny_bind (wpAny_bind (wpAny_onRaise (show wpAny _ _ (Builtin.SmallTypes.nextOf (.ref i) >>= _) _ _ _ from ?_)))
  refine wpAny_bind (nx_sign (h1.mv fun o q => e1.extBut _ _ D.iz q) hx fun g2 u tk1 n1 e2 => wpAny_pure ?_)
  have B2 : IsPair g2 b v0 w0 := e2.extBut _ _ D.bi (e1.extBut _ _ D.bz Hb)
  refine wpAny_bind (wpAny_seqItems B2 rfl (wpAny_bind (wpAny_updateSeq_pair B2 fun g3 Hb3 e3 => wpAny_bind (wpAny_letGo (wpAny_pure ?_)))))
  have B3 : IsPair g3 b (.str ⟨#[c]⟩ u) w0 := Hb3
  refine wpAny_bind (wpAny_bind (wpAny_onRaise (show wpAny _ _ (Builtin.SmallTypes.nextOf (.ref j) >>= _) _ _ _ from ?_)))
  refine wpAny_bind (nx_sign (((h2.mv fun o q => e1.extBut _ _ D.jz q).mv fun o q => e2.extBut _ _ D.ij.symm q).mv fun o q => e3.extBut _ _ D.bj.symm q) hy fun g4 u2 tk2 n2 e4 => wpAny_pure ?_)
  have B4 : IsPair g4 b (.str ⟨#[c]⟩ u) w0 := e4.extBut _ _ D.bj B3
  refine wpAny_bind (wpAny_seqItems B4 rfl (wpAny_bind (wpAny_updateSeq_pair B4 fun g5 Hb5 e5 => wpAny_bind (wpAny_letGo (wpAny_pure (wpAny_pure ?_))))))
  have B5 : IsPair g5 b (.str ⟨#[c]⟩ u) (.str ⟨#[d]⟩ u2) := Hb5
  refine wpAny_bind (wpAny_seqItems B5 rfl (wpAny_bind (wpAny_newTuple ?_)))
  have sz : g5.objs.size = s.heap.objs.size := by rw [e5.1, e4.1, e3.1, e2.1, e1.1]
  have Z5' : IsZip g5 z a b .ellipsis := e5.extBut _ _ D.bz.symm (e4.extBut _ _ D.jz.symm (e3.extBut _ _ D.bz.symm (e2.extBut _ _ D.iz.symm Z1)))
  have all : ∀ q o, q ≠ z → q ≠ b → q ≠ i → q ≠ j → s.heap.get? q = some o → g5.get? q = some o := fun q o c1 c2 c3 c4 e =>
    e5.extBut _ _ c2 (e4.extBut _ _ c4 (e3.extBut _ _ c2 (e2.extBut _ _ c3 (e1.extBut _ _ c1 e))))
  have I5 : TxIt g5 i x (k + 1) := ((n1.mv fun o q => e3.extBut _ _ D.bi.symm q).mv fun o q => e4.extBut _ _ D.ij q).mv fun o q => e5.extBut _ _ D.bi.symm q
  have J5 : TxIt g5 j y (k + 1) := n2.mv fun o q => e5.extBut _ _ D.bj.symm q
  have zlt : z < g5.objs.size := Heap.lt_size Z5'
  refine (show wpAny _ _ (Builtin.SmallTypes.ownedTupleHandOut (.ref z) (.ref g5.objs.size) >>= _) _ _ _ from wpAny_bind ?_)
  unfold Builtin.SmallTypes.ownedTupleHandOut
  have Z6 : IsZip (g5.push { cls := .type "tuple", data := .seq #[.str ⟨#[c]⟩ u, .str ⟨#[d]⟩ u2] }) z a b .ellipsis := Heap.get?_push_of_some _ Z5'
  refine wpAny_bind (wpAny_setField_rec Z6 (by simp) fun g7 Hz7 e7 => wpAny_setField_rec (show IsZip g7 z a b (rawInt g5.objs.size) from Hz7) (by simp) fun g8 Hz8 e8 => ?_)
  have Z8 : IsZip g8 z a b (rawInt g5.objs.size) := Hz8
  have up : ∀ q o, q ≠ z → g5.get? q = some o → g8.get? q = some o := fun q o c1 e => e8.extBut _ _ c1 (e7.extBut _ _ c1 (Heap.get?_push_of_some _ e))
  have T8 : IsPair g8 g5.objs.size (.str ⟨#[c]⟩ u) (.str ⟨#[d]⟩ u2) := e8.extBut _ _ (Nat.ne_of_gt zlt) (e7.extBut _ _ (Nat.ne_of_gt zlt) (Heap.get?_push_size _ rfl))
  have sz8 : g8.objs.size = g5.objs.size + 1 := by rw [e8.1, e7.1, Heap.size_push]
  rw [sz] at Z8 T8 sz8
  refine wpAny_pure ⟨_, rfl, show Q (.ref g5.objs.size) _ from ?_⟩
  rw [sz]
  exact hQ g8 u u2 _ Z8 (up _ _ D.bz B5) (I5.mv fun o e => up _ o D.iz e) (J5.mv fun o e => up _ o D.jz e) T8 sz8 fun q o c1 c2 c3 c4 e => up q o c1 (all q o c1 c2 c3 c4 e)
theorem zs_end {z a b i j : Addr} {k : Nat} {x y : Str} {v0 w0 : Value} {Q : PySem.Fin → Shared → Prop} (hh : A.handled = none) (D : Z5 z a b i j)
    (Hz : IsZip s.heap z a b .none) (Ha : IsPair s.heap a (.ref i) (.ref j)) (Hb : IsPair s.heap b v0 w0) (h1 : TxIt s.heap i x k) (h2 : TxIt s.heap j y k) (hend : x.cps[k]? = none ∨ y.cps[k]? = none)
    (hE : ∀ h' tk e, (∀ q o, q ≠ z → q ≠ b → q ≠ i → q ≠ j → s.heap.get? q = some o → h'.get? q = some o) → (∃ o, h'.get? e = some o ∧ o.cls = .type "StopIteration") → E (.ref e) { s with heap := h', toks := tk }) :
    wpAny (model prog w) A (Builtin.«zip.__next__» ⟨[.ref z], []⟩) Q E s := by
  refine (show wpAny _ _ (field (.ref z) 2 >>= _) _ _ _ from wpAny_bind (wpAny_field Hz rfl (x := .bool false) rfl (show wpAny _ _ (field (.ref z) 3 >>= _) _ _ _ from wpAny_bind (wpAny_field Hz rfl (x := .ref a) rfl (wpAny_bind (wpAny_seqItems Ha rfl (show wpAny _ _ (Builtin.SmallTypes.ownedTupleIsFree (.ref z) >>= _) _ _ _ from wpAny_bind ?_)))))))
  unfold Builtin.SmallTypes.ownedTupleIsFree
  refine wpAny_bind (wpAny_field Hz rfl (x := .none) rfl (wpAny_pure ?_))
  simp only [if_true]
  refine wpAny_bind (wpAny_rule (wpAny_bind (wpAny_field Hz rfl (x := .ref b) rfl (wpAny_bind (wpAny_setField_rec Hz (by simp) fun g1 Hz1 e1 => ?_)))))
  have Z1 : IsZip g1 z a b .ellipsis := Hz1
  refine wpAny_bind ?_
  simp only [List.zipIdx_cons, List.zipIdx_nil, List.forIn_cons, List.forIn_nil]
  refine wpAny_bind (wpAny_bind (wpAny_onRaise (show wpAny _ _ (Builtin.SmallTypes.nextOf (.ref i) >>= _) _ _ _ from ?_)))
  cases hx : x.cps[k]? with
  | none =>
    refine wpAny_bind (nx_stop hh (h1.mv fun o q => e1.extBut _ _ D.iz q) hx fun g2 e e2 he => ?_)
    obtain ⟨oe, hoe, hce⟩ := he
    have Z2 : IsZip g2 z a b .ellipsis := e2 _ _ D.iz.symm Z1
    have ne : e ≠ z := fun q => by
      subst q
      rw [Z2] at hoe
      cases hoe
      simp at hce
    exact wpAny_setField_rec Z2 (by simp) fun g3 _ e3 => hE g3 _ e (fun q o c1 _ c3 _ q1 => e3.extBut _ _ c1 (e2 _ _ c3 (e1.extBut _ _ c1 q1))) ⟨oe, e3.extBut _ _ ne hoe, hce⟩
  | some c =>
    have hy : y.cps[k]? = none := hend.elim (fun h => by rw [hx] at h; cases h) id
    refine wpAny_bind (nx_sign (h1.mv fun o q => e1.extBut _ _ D.iz q) hx fun g2 u tk1 n1 e2 => wpAny_pure ?_)
    have B2 : IsPair g2 b v0 w0 := e2.extBut _ _ D.bi (e1.extBut _ _ D.bz Hb)
    refine wpAny_bind (wpAny_seqItems B2 rfl (wpAny_bind (wpAny_updateSeq_pair B2 fun g3 Hb3 e3 => wpAny_bind (wpAny_letGo (wpAny_pure ?_)))))
    refine wpAny_bind (wpAny_bind (wpAny_onRaise (show wpAny _ _ (Builtin.SmallTypes.nextOf (.ref j) >>= _) _ _ _ from ?_)))
    refine wpAny_bind (nx_stop hh (((h2.mv fun o q => e1.extBut _ _ D.jz q).mv fun o q => e2.extBut _ _ D.ij.symm q).mv fun o q => e3.extBut _ _ D.bj.symm q) hy fun g4 e e4 he => ?_)
    obtain ⟨oe, hoe, hce⟩ := he
    have Z4 : IsZip g4 z a b .ellipsis := e4 _ _ D.jz.symm (e3.extBut _ _ D.bz.symm (e2.extBut _ _ D.iz.symm Z1))
    have ne : e ≠ z := fun q => by
      subst q
      rw [Z4] at hoe
      cases hoe
      simp at hce
    exact wpAny_setField_rec Z4 (by simp) fun g5 _ e5 => hE g5 _ e (fun q o c1 c2 c3 c4 q1 => e5.extBut _ _ c1 (e4 _ _ c4 (e3.extBut _ _ c2 (e2.extBut _ _ c3 (e1.extBut _ _ c1 q1))))) ⟨oe, e5.extBut _ _ ne hoe, hce⟩
theorem nx_zip {z a b i j : Addr} {k : Nat} {x y : Str} {c d : Nat} {v0 w0 : Value} {Q : Option Value → Shared → Prop} (D : Z5 z a b i j)
    (Hz : IsZip s.heap z a b .none) (Ha : IsPair s.heap a (.ref i) (.ref j)) (Hb : IsPair s.heap b v0 w0) (h1 : TxIt s.heap i x k) (h2 : TxIt s.heap j y k) (hx : x.cps[k]? = some c) (hy : y.cps[k]? = some d)
    (hQ : ∀ h' t1 t2 tk, IsZip h' z a b (rawInt s.heap.objs.size) → IsPair h' b (.str ⟨#[c]⟩ t1) (.str ⟨#[d]⟩ t2) → TxIt h' i x (k + 1) → TxIt h' j y (k + 1) → IsPair h' s.heap.objs.size (.str ⟨#[c]⟩ t1) (.str ⟨#[d]⟩ t2) → h'.objs.size = s.heap.objs.size + 1 →
      (∀ q o, q ≠ z → q ≠ b → q ≠ i → q ≠ j → s.heap.get? q = some o → h'.get? q = some o) → Q (some (.ref s.heap.objs.size)) { s with heap := h', toks := tk }) :
    wpAny (model prog w) A (pyNext (.ref z)) Q E s := by
  have T : s.TypeIs (.ref z) "zip" := ⟨_, Hz, rfl⟩
  unfold pyNext
  exact wpAny_bind (wpAny_attempt (wpAny_callSpecial?_slot (name := Str.ofString "__next__") T F.slot_zip_next (wpAny_call_entry F.slot_zip_next T F.entry_zip_next
    (zs_item D Hz Ha Hb h1 h2 hx hy fun h' t1 t2 tk q1 q2 q3 q4 q5 q6 q7 => wpAny_pure (hQ h' t1 t2 tk q1 q2 q3 q4 q5 q6 q7)) (F.args_zip_next_1 _))))
theorem nx_zipE {z a b i j : Addr} {k : Nat} {x y : Str} {v0 w0 : Value} {Q : Option Value → Shared → Prop} (hh : A.handled = none) (D : Z5 z a b i j)
    (Hz : IsZip s.heap z a b .none) (Ha : IsPair s.heap a (.ref i) (.ref j)) (Hb : IsPair s.heap b v0 w0) (h1 : TxIt s.heap i x k) (h2 : TxIt s.heap j y k) (hend : x.cps[k]? = none ∨ y.cps[k]? = none)
    (hQ : ∀ h' tk, (∀ q o, q ≠ z → q ≠ b → q ≠ i → q ≠ j → s.heap.get? q = some o → h'.get? q = some o) → Q none { s with heap := h', toks := tk }) : wpAny (model prog w) A (pyNext (.ref z)) Q E s := by
  have T : s.TypeIs (.ref z) "zip" := ⟨_, Hz, rfl⟩
  unfold pyNext
  refine wpAny_bind (wpAny_attempt (wpAny_callSpecial?_slot (name := Str.ofString "__next__") T F.slot_zip_next (wpAny_call_entry F.slot_zip_next T F.entry_zip_next
    (zs_end hh D Hz Ha Hb h1 h2 hend fun h' tk e hk ⟨o, ho, hc⟩ => wpAny_bind (wpAny_isInstance (T := "StopIteration") (b := true) ⟨o, ho, hc⟩ isSubtype_stop (wpAny_pure (hQ _ _ hk)))) (F.args_zip_next_1 _))))
end
/-! ### made -/
def txI (x : Str) (t : Tok) : Obj := { cls := .type "str_ascii_iterator", data := .fields #[.str x t, .int 0 0] }
def zpR (p q : Value) : Obj := { cls := .type "tuple", data := .seq #[p, q] }
def zpO (a b : Addr) : Obj := { cls := .type "zip", data := .fields #[.none, .bool false, .bool false, .ref a, .ref b] }
def zp2 (h : Heap) (x : Str) (t : Tok) (y : Str) (u : Tok) : Heap := (h.push (txI x t)).push (txI y u)
def zp5 (h : Heap) (x : Str) (t : Tok) (y : Str) (u : Tok) : Heap := (((zp2 h x t y u).push (zpR (.ref h.objs.size) (.ref (h.push (txI x t)).objs.size))).push (zpR .none .none)).push (zpO (zp2 h x t y u).objs.size ((zp2 h x t y u).push (zpR (.ref h.objs.size) (.ref (h.push (txI x t)).objs.size))).objs.size)
theorem meets_zipS (x y : Str) (t u : Tok) (ax : x.cps.all (· < 128) = true) (ay : y.cps.all (· < 128) = true) :
    Meets (Builtin.«zip.__new__» ⟨[.type "zip", .str x t, .str y u], []⟩) (fun _ R s => R (.ok (.ret (.ref (((zp2 s.heap x t y u).push (zpR (.ref s.heap.objs.size) (.ref (s.heap.push (txI x t)).objs.size))).push (zpR .none .none)).objs.size))) { s with heap := zp5 s.heap x t y u }) :=
  .of_wp fun prog w A R s h => by
    obtain ⟨hp, g, d, tk, os⟩ := s
    have hsub := sub_zip
    wp_walk using wpAny_pyIter_ascii ax, wpAny_pyIter_ascii ay
    exact ⟨_, rfl, h⟩
section
variable {prog : Program} {w : World} {A : Around} {E : Value → Shared → Prop} {s : Shared}
theorem call_zipS {x y : Str} {t u : Tok} {Q : Value → Shared → Prop} (ax : x.cps.all (· < 128) = true) (ay : y.cps.all (· < 128) = true)
    (h : ∀ h' N, N = s.heap.objs.size → IsZip h' (N + 4) (N + 2) (N + 3) .none → IsPair h' (N + 2) (.ref N) (.ref (N + 1)) → IsPair h' (N + 3) .none .none → TxIt h' N x 0 → TxIt h' (N + 1) y 0 → (∀ c o, s.heap.get? c = some o → h'.get? c = some o) → Q (.ref (N + 4)) { s with heap := h' }) :
    wpAny (model prog w) A (call (.type "zip") [.str x t, .str y u]) Q E s := by
  refine callType_new F.called_zip (by decide) (F.typeCall_zip_2 _ _) (F.newCall_zip_2 _ _) (fun obj => F.args_object_init_3 obj _ _) F.entry_zip_new (meets_zipS x y t u ax ay) ?_
  obtain ⟨N, hN⟩ : ∃ N, N = s.heap.objs.size := ⟨_, rfl⟩
  have n1 : (s.heap.push (txI x t)).objs.size = N + 1 := by rw [Heap.size_push, hN]
  have n2 : (zp2 s.heap x t y u).objs.size = N + 2 := by unfold zp2; rw [Heap.size_push, n1]
  have n3 : ((zp2 s.heap x t y u).push (zpR (.ref s.heap.objs.size) (.ref (s.heap.push (txI x t)).objs.size))).objs.size = N + 3 := by rw [Heap.size_push, n2]
  have n4 : (((zp2 s.heap x t y u).push (zpR (.ref s.heap.objs.size) (.ref (s.heap.push (txI x t)).objs.size))).push (zpR .none .none)).objs.size = N + 4 := by rw [Heap.size_push, n3]
  have k5 : (zp5 s.heap x t y u).get? (N + 4) = some (zpO (zp2 s.heap x t y u).objs.size ((zp2 s.heap x t y u).push (zpR (.ref s.heap.objs.size) (.ref (s.heap.push (txI x t)).objs.size))).objs.size) := by
    rw [← n4]
    exact Heap.get?_push_size _ rfl
  have k4 : (zp5 s.heap x t y u).get? (N + 3) = some (zpR .none .none) := by
    rw [← n3]
    exact Heap.get?_push_of_some _ (Heap.get?_push_size _ rfl)
  have k3 : (zp5 s.heap x t y u).get? (N + 2) = some (zpR (.ref s.heap.objs.size) (.ref (s.heap.push (txI x t)).objs.size)) := by
    rw [← n2]
    exact Heap.get?_push_of_some _ (Heap.get?_push_of_some _ (Heap.get?_push_size _ rfl))
  have k2 : (zp5 s.heap x t y u).get? (N + 1) = some (txI y u) := by
    rw [← n1]
    exact Heap.get?_push_of_some _ (Heap.get?_push_of_some _ (Heap.get?_push_of_some _ (Heap.get?_push_size _ rfl)))
  have k1 : (zp5 s.heap x t y u).get? N = some (txI x t) := by
    rw [hN]
    exact Heap.get?_push_of_some _ (Heap.get?_push_of_some _ (Heap.get?_push_of_some _ (Heap.get?_push_of_some _ (Heap.get?_push_size _ rfl))))
  rw [n2, n3] at k5
  rw [n1, ← hN] at k3
  rw [n4]
  exact ⟨⟨_, k5, rfl⟩, h _ N hN k5 k3 k4 ⟨_, t, k1, rfl, rfl⟩ ⟨_, u, k2, rfl, rfl⟩ fun c o e =>
    Heap.get?_push_of_some _ (Heap.get?_push_of_some _ (Heap.get?_push_of_some _ (Heap.get?_push_of_some _ (Heap.get?_push_of_some _ e))))⟩
end
/-- the signs of the two at each turn, in a new pair -/
def ItzS (x y : Str) : It :=
  ⟨fun i _ => ∃ c d, x.cps[i]? = some c ∧ y.cps[i]? = some d,
    fun i H v H' => ∃ T c d, v = .ref T ∧ H T = none ∧ H' = upd H T (.tup [.str ⟨#[c]⟩, .str ⟨#[d]⟩]) ∧ x.cps[i]? = some c ∧ y.cps[i]? = some d,
    fun i _ => x.cps[i]? = none ∨ y.cps[i]? = none⟩
theorem turn_zipS {P : Program} {w : World} {K : PySem.W.Frag} {elts : List Expr} {kk : Nat} {tpos : Pos} {x y : Str} {z a b i j : Addr} (D : Z5 z a b i j) :
    Turn P w K (.Tuple elts kk tpos) (ItzS x y) [z, a, b, i, j] z (fun k h => IsZip h z a b .none ∧ IsPair h a (.ref i) (.ref j) ∧ (∃ v u, IsPair h b v u) ∧ TxIt h i x k ∧ TxIt h j y k) where
  mem := by simp
  obj := fun k h ⟨Hz, Ha, ⟨v, u, Hb⟩, ⟨o1, _, e1, _, d1⟩, ⟨o2, _, e2, _, d2⟩⟩ c hc => by
    simp only [List.mem_cons, List.not_mem_nil, or_false] at hc
    rcases hc with rfl | rfl | rfl | rfl | rfl
    · exact ⟨_, Hz, fun v q => nomatch q⟩
    · exact ⟨_, Ha, fun v q => nomatch q⟩
    · exact ⟨_, Hb, fun v q => nomatch q⟩
    · exact ⟨o1, e1, fun v q => by rw [d1] at q; cases q⟩
    · exact ⟨o2, e2, fun v q => by rw [d2] at q; cases q⟩
  keep := fun k h h' ⟨Hz, Ha, ⟨v, u, Hb⟩, h1, h2⟩ kp => ⟨kp z (by simp) _ Hz, kp a (by simp) _ Ha, ⟨v, u, kp b (by simp) _ Hb⟩, h1.mv fun o q => kp i (by simp) o q, h2.mv fun o q => kp j (by simp) o q⟩
  item := by
    rintro X hP hw hK hc k pins s σ H E I hf ⟨Hz, Ha, ⟨v0, u0, Hb⟩, h1, h2⟩ ⟨c, d, hx, hy⟩
    subst hP hw hK
    obtain ⟨N, hN⟩ : ∃ N, N = s.heap.objs.size := ⟨_, rfl⟩
    have zl : z < s.heap.objs.size := Heap.lt_size Hz
    refine nx_zip D Hz Ha Hb h1 h2 hx hy fun h' t1 t2 tk z' b' i' j' T' sz hk => ⟨_, rfl, wpAny_letOwnedTupleGo_zip (s := { s with heap := h', toks := tk }) z' fun h'' z'' sb => ?_⟩
    have T2 : h''.get? s.heap.objs.size = some { cls := .type "tuple", data := .seq #[.str ⟨#[c]⟩ t1, .str ⟨#[d]⟩ t2] } := (sb.2 _ (Nat.ne_of_gt zl)).trans T'
    have new : ObjOk X.prog X.w (upd H s.heap.objs.size (.tup [.str ⟨#[c]⟩, .str ⟨#[d]⟩])) h'' s.heap.objs.size (.tup [.str ⟨#[c]⟩, .str ⟨#[d]⟩]) :=
      ⟨by show 2 ≤ sizeLine; decide, [.str ⟨#[c]⟩ t1, .str ⟨#[d]⟩ t2], .cons ⟨t1, rfl⟩ (.cons ⟨t2, rfl⟩ .nil), ⟨_, T2, rfl, _, rfl⟩⟩
    have J : L2.Inv X pins σ (upd H s.heap.objs.size (.tup [.str ⟨#[c]⟩, .str ⟨#[d]⟩])) { s with heap := h'', toks := tk } :=
      I.turnedNew (t' := tk) (ch := [z, a, b, i, j]) (fun e o hb q => (sb.2 e (fun q' => hb (by simp [q']))).trans (hk e o (fun q' => hb (by simp [q'])) (fun q' => hb (by simp [q'])) (fun q' => hb (by simp [q'])) (fun q' => hb (by simp [q'])) q)) hf (Nat.le_refl _) new
    refine ⟨.ref s.heap.objs.size, _, J, rfl, ⟨_, c, d, rfl, I.hok.fresh (Nat.le_refl _), rfl, hx, hy⟩, ⟨z'', (sb.2 _ D.az).trans (hk _ _ D.az D.ab D.ai D.aj Ha), ⟨_, _, (sb.2 _ D.bz).trans b'⟩, i'.mv fun o q => (sb.2 _ D.iz).trans q, j'.mv fun o q => (sb.2 _ D.jz).trans q⟩, fun e he => ?_⟩
    have lt : e < s.heap.objs.size := by
      simp only [List.mem_cons, List.not_mem_nil, or_false] at he
      rcases he with rfl | rfl | rfl | rfl | rfl
      · exact zl
      · exact Heap.lt_size Ha
      · exact Heap.lt_size Hb
      · obtain ⟨_, _, e1, _⟩ := h1
        exact Heap.lt_size e1
      · obtain ⟨_, _, e2, _⟩ := h2
        exact Heap.lt_size e2
    rw [upd_ne (Nat.ne_of_lt lt)]
    exact (hf e he).1
  done := by
    rintro X hP hw hK hc k pins s σ H E I hf ⟨Hz, Ha, ⟨v0, u0, Hb⟩, h1, h2⟩ hend
    subst hP hw hK
    exact nx_zipE (I.ok.hd hc) D Hz Ha Hb h1 h2 hend fun h' tk hk => ⟨rfl, I.turnedL (t' := tk) (ch := [z, a, b, i, j]) (fun e o hb q =>
      hk e o (fun q' => hb (by simp [q'])) (fun q' => hb (by simp [q'])) (fun q' => hb (by simp [q'])) (fun q' => hb (by simp [q'])) q) hf⟩
  self := fun A k s Q E st h => wpAny_pyIter_zip st.1 h
theorem nN {a b : Nat} (h : a ≠ b) : @Ne Addr a b := h
theorem z5_of (N : Nat) : Z5 (N + 4) (N + 2) (N + 3) N (N + 1) := ⟨nN (by omega), nN (by omega), nN (by omega), nN (by omega), nN (by omega), nN (by omega), nN (by omega), nN (by omega), nN (by omega), nN (by omega)⟩
/-! ### zip(e, e2) of lists, tuples, texts -/
def ascii (x : Str) : Bool := x.cps.all (· < 128)
def iZip3 (K : PySem.W.Frag) (ta : TA) : TI := fun σ H R => ta σ H fun vs H1 => (∃ a b xs ys, vs = [.ref a, .ref b] ∧ ((SqL K H1 a xs ∧ SqL K H1 b ys ∧ R (Itz K a b) H1) ∨ (SqT K H1 a xs ∧ SqT K H1 b ys ∧ R (RZ.ItzT K a b) H1))) ∨ ∃ x y, vs = [.str x, .str y] ∧ ascii x = true ∧ ascii y = true ∧ R (ItzS x y) H1
theorem pi_zip3 {X : Cx} {e e2 : Expr} {ta : TA} {p pos tpos : Pos} {elts : List Expr} {kk : Nat} (hg : Gl X "zip") (hm : X.mg "zip" = none) (ha : PA X [e, e2] ta)
    (hs : starEach [e, e2] X.env = (false, eval e X.env) :: starEach [e2] X.env := by rfl) (hpl : (backTo pos (starEach [e2] X.env)).any (·.1) = false := by rfl) :
    PI X (.Tuple elts kk tpos) (.Call (.Name "zip" p) [e, e2] [] pos) (iZip3 X.K ta) := by
  refine ⟨fun pins s σ H R I h => Call_ (ld_blt I hg hm PyProof.Rows.boot_zip (PyProof.Rows.callWith_type1 (thn (ha.run pos pins s σ H _ I h) fun us s1 ⟨vs, H1, I1, r1, q1⟩ => ?_) hs hpl))⟩
  rcases q1 with q1 | ⟨x, y, rfl, ax, ay, q⟩
  · -- as two lists or two tuples: by the hand layer's rule, over what was evaluated
    obtain ⟨a, b, xs, ys, rfl, q1⟩ := q1
    cases r1 with
    | cons r rr =>
    cases rr with
    | cons r' rr =>
    cases rr
    cases r
    cases r'
    obtain ⟨N, hN⟩ : ∃ N, N = s1.heap.objs.size := ⟨_, rfl⟩
    have five : ∀ c, c ∈ [N + 4, N + 2, N + 3, N, N + 1] → FpOk X pins H1 c := fun c hc => by
      have le : s1.heap.objs.size ≤ c := by
        simp only [List.mem_cons, List.not_mem_nil, or_false] at hc
        omega
      exact I1.fpOk le (I1.hok.fresh le)
    rcases q1 with ⟨hx, hy, q⟩ | ⟨hx, hy, q⟩
    · obtain ⟨its, rv, p1, _⟩ := I1.list hx
      obtain ⟨its2, rv2, p2, _⟩ := I1.list hy
      refine call_zip_2 p1.isList p2.isList fun h' hz hTI hTO h1 h2 hsz hk => wpAny_pyIter_zip hz ?_
      rw [← hN] at hz hTI hTO h1 h2 ⊢
      exact ⟨N + 4, [N + 4, N + 2, N + 3, N, N + 1], _, _, H1, rfl, I1.kept (t' := s1.toks) hk, turn_zip (PySem.W.ktu_apart N a b (by rw [hN]; exact p1.lt) (by rw [hN]; exact p2.lt)), ⟨hz, hTI, ⟨_, _, hTO⟩, h1, h2⟩, five, q⟩
    · obtain ⟨its, rv, p1, _⟩ := I1.tuple hx
      obtain ⟨its2, rv2, p2, _⟩ := I1.tuple hy
      obtain ⟨o1, ho1, _⟩ := id p1
      obtain ⟨o2, ho2, _⟩ := id p2
      refine RZ.call_zipT (show s1.heap.IsTuple a its.toArray from p1) (show s1.heap.IsTuple b its2.toArray from p2) fun h' hz hTI hTO h1 h2 hsz hk => wpAny_pyIter_zip hz ?_
      rw [← hN] at hz hTI hTO h1 h2 ⊢
      exact ⟨N + 4, [N + 4, N + 2, N + 3, N, N + 1], _, _, H1, rfl, I1.kept (t' := s1.toks) hk, RZ.turn_zipT (PySem.W.ktu_apart N a b (by rw [hN]; exact Heap.lt_size ho1) (by rw [hN]; exact Heap.lt_size ho2)), ⟨hz, hTI, ⟨_, _, hTO⟩, h1, h2⟩, five, q⟩
  · cases r1 with
    | cons r rr =>
    cases rr with
    | cons r' rr =>
    cases rr
    obtain ⟨t, rfl⟩ := r
    obtain ⟨u, rfl⟩ := r'
    refine call_zipS ax ay fun h' N hN hz hTI hTO h1 h2 hk => wpAny_pyIter_zip hz ?_
    have D5 : Z5 (N + 4) (N + 2) (N + 3) N (N + 1) := z5_of N
    have five : ∀ c, c ∈ [N + 4, N + 2, N + 3, N, N + 1] → FpOk X pins H1 c := fun c hc => by
      have le : s1.heap.objs.size ≤ c := by
        simp only [List.mem_cons, List.not_mem_nil, or_false] at hc
        omega
      exact I1.fpOk le (I1.hok.fresh le)
    exact ⟨N + 4, [N + 4, N + 2, N + 3, N, N + 1], _, _, H1, rfl, I1.kept (t' := s1.toks) hk, turn_zipS D5, ⟨hz, hTI, ⟨_, _, hTO⟩, h1, h2⟩, five, q⟩
end FL

/-! zip as a source; two clauses as an expression. -/
namespace FL
open PySem PySem.Spec PyProof.Rows L2 Gd Fx Stp LamX Lm
def pairsZ (xs ys : List D) : List D := (xs.zip ys).map fun p => .tuple [p.1, p.2]
theorem pairsZ_length (xs ys : List D) : (pairsZ xs ys).length = min xs.length ys.length := by
  unfold pairsZ
  rw [List.length_map, List.length_zip]
theorem pairsZ_at {xs ys : List D} {i : Nat} {x y : D} (h1 : xs[i]? = some x) (h2 : ys[i]? = some y) : (pairsZ xs ys)[i]? = some (.tuple [x, y]) := by
  unfold pairsZ
  rw [List.getElem?_map, (List.getElem?_zip_eq_some (z := (x, y))).mpr ⟨h1, h2⟩]
  rfl
section
variable {K : Kx} {M : List Addr} {H : Hp} {a b : Addr} {vs us : List V} {ds es : List D}
theorem pair_new {M2 : List Addr} {H2 : Hp} {T : Addr} {x y : V} {d e : D} (h4 : H2 T = none) (fr : ∀ p, H2 p = none → p ∉ M2) (hx : DV K (hid M2 H2) x d) (hy : DV K (hid M2 H2) y e) : DV K (hid M2 (upd H2 T (.tup [x, y]))) (.ref T) (.tuple [d, e]) :=
  .tup (SqT.of (hid_mk (fr T h4) upd_same)) (.cons (hx.same (hid_same (same1 h4))) (.cons (hy.same (hid_same (same1 h4))) .nil))
theorem src_zipL (h1 : hid M H a = some (.lst vs)) (h2 : DVs K (hid M H) vs ds) (g1 : hid M H b = some (.lst us)) (g2 : DVs K (hid M H) us es) : SrcD K M H (Itz K.K a b) (pairsZ ds es) where
  goes := fun i M2 H2 hi s => (walk_zip (xs := vs) (ys := us) rfl).goes i H2 (by rw [pairsZ_length] at hi; rw [h2.length, g2.length]; exact hi) ⟨SqL.of (hid_to _ _ (s _ _ h1)), SqL.of (hid_to _ _ (s _ _ g1))⟩
  stops := fun M2 H2 s => by
    rw [pairsZ_length, ← h2.length, ← g2.length]
    exact (walk_zip (xs := vs) (ys := us) rfl).stops H2 ⟨SqL.of (hid_to _ _ (s _ _ h1)), SqL.of (hid_to _ _ (s _ _ g1))⟩
  yields := fun i M2 H2 x H3 hi s fr y => by
    rw [pairsZ_length] at hi
    obtain ⟨T, x, z, rfl, h4, rfl, e1, e2⟩ := (walk_zip (xs := vs) (ys := us) rfl).yields i H2 x H3 (by rw [h2.length, g2.length]; exact hi) ⟨SqL.of (hid_to _ _ (s _ _ h1)), SqL.of (hid_to _ _ (s _ _ g1))⟩ y
    obtain ⟨d, e3, e4⟩ := h2.at' e1
    obtain ⟨e, e5, e6⟩ := g2.at' e2
    exact ⟨same1 h4, _, pairsZ_at e3 e5, pair_new h4 fr (e4.same s) (e6.same s)⟩
theorem src_zipT (h1 : SqT K.K (hid M H) a vs) (h2 : DVs K (hid M H) vs ds) (g1 : SqT K.K (hid M H) b us) (g2 : DVs K (hid M H) us es) : SrcD K M H (RZ.ItzT K.K a b) (pairsZ ds es) where
  goes := fun i M2 H2 hi s => by
    rw [pairsZ_length, ← h2.length, ← g2.length] at hi
    have l1 : i < vs.length := by omega
    have l2 : i < us.length := by omega
    exact ⟨vs, us, _, _, seqT (s.trans hid_to) h1, seqT (s.trans hid_to) g1, List.getElem?_eq_getElem l1, List.getElem?_eq_getElem l2⟩
  stops := fun M2 H2 s => by
    rw [pairsZ_length, ← h2.length, ← g2.length]
    exact ⟨vs, us, seqT (s.trans hid_to) h1, seqT (s.trans hid_to) g1, by omega⟩
  yields := fun i M2 H2 x H3 hi s fr y => by
    obtain ⟨T, x, z, rfl, h4, rfl, e1, e2⟩ := y
    obtain ⟨d, e3, e4⟩ := h2.at' (e1 vs (seqT (s.trans hid_to) h1))
    obtain ⟨e, e5, e6⟩ := g2.at' (e2 us (seqT (s.trans hid_to) g1))
    exact ⟨same1 h4, _, pairsZ_at e3 e5, pair_new h4 fr (e4.same s) (e6.same s)⟩
theorem signs_at {x : Str} {i c : Nat} (h : x.cps[i]? = some c) : (signs x)[i]? = some (.str ⟨#[c]⟩) := by
  unfold signs
  rw [List.getElem?_map, Array.getElem?_toList, h]
  rfl
theorem src_zipS {x y : Str} : SrcD K M H (ItzS x y) (pairsZ (signs x) (signs y)) where
  goes := fun i M2 H2 hi s => by
    rw [pairsZ_length, signs_length, signs_length] at hi
    have l1 : i < x.cps.size := by omega
    have l2 : i < y.cps.size := by omega
    exact ⟨_, _, Array.getElem?_eq_getElem l1, Array.getElem?_eq_getElem l2⟩
  stops := fun M2 H2 s => by
    rw [pairsZ_length, signs_length, signs_length]
    show x.cps[min x.cps.size y.cps.size]? = none ∨ y.cps[min x.cps.size y.cps.size]? = none
    by_cases h : x.cps.size ≤ y.cps.size
    · exact .inl (Array.getElem?_eq_none (by omega))
    · exact .inr (Array.getElem?_eq_none (by omega))
  yields := fun i M2 H2 v H3 hi s fr z => by
    obtain ⟨T, c, d, rfl, h4, rfl, e1, e2⟩ := z
    exact ⟨same1 h4, _, pairsZ_at (signs_at e1) (signs_at e2), pair_new h4 fr (.str _) (.str _)⟩
end
def zipOf : List D → Option (List D)
  | [.list xs, .list ys] => some (pairsZ xs ys)
  | [.tuple xs, .tuple ys] => some (pairsZ xs ys)
  | [.str x, .str y] => if ascii x = true ∧ ascii y = true then some (pairsZ (signs x) (signs y)) else none
  | _ => none
def fZip (fa : FA) : FI := fun δ => (fa δ).bind fun ws => (datL ws).bind fun ds => T.of (zipOf ds)
@[simp] theorem fZip_def (fa : FA) (δ : Sl) : fZip fa δ = (fa δ).bind fun ws => (datL ws).bind fun ds => T.of (zipOf ds) := rfl
@[simp] theorem zipOf_l (xs ys : List D) : zipOf [.list xs, .list ys] = some (pairsZ xs ys) := rfl
@[simp] theorem zipOf_t (xs ys : List D) : zipOf [.tuple xs, .tuple ys] = some (pairsZ xs ys) := rfl
@[simp] theorem zipOf_s (x y : Str) : zipOf [.str x, .str y] = if ascii x = true ∧ ascii y = true then some (pairsZ (signs x) (signs y)) else none := rfl
section
variable {X : Cx} {F : Fc} {a b : Expr} {fa : FA} {p pos : Pos}
theorem pfi_zip {elts : List Expr} {kk : Nat} {tpos : Pos} (hg : Gl X "zip") (hm : X.mg "zip" = none) (ha : PFA X F [a, b] fa) (hK : X.K = F.K.K := by rfl)
    (hs : starEach [a, b] X.env = (false, eval a X.env) :: starEach [b] X.env := by rfl) (hpl : (backTo pos (starEach [b] X.env)).any (·.1) = false := by rfl) : PFI X F (.Tuple elts kk tpos) (.Call (.Name "zip" p) [a, b] [] pos) (fZip fa) :=
  ⟨fun Z tk => pi_to (pi_zip3 hg hm (ha.pa Z tk) hs hpl) fun σ H Q ⟨M, δ, n, ok, q⟩ => goA ok ((T.wp_bind _ _).mp q) fun ws n1 vs H1 q1 s1 ok1 v1 => by
    obtain ⟨ds, hv, q2⟩ := dvs_dat v1 ((T.wp_bind _ _).mp q1)
    obtain ⟨xs, e', q3⟩ := T.wp_of.mp q2
    rw [hK]
    match ds, hv, e' with
    | [.list xs, .list ys], .cons (.lst h1 h2) (.cons (.lst g1 g2) .nil), e' =>
      cases e'
      exact .inl ⟨_, _, _, _, rfl, .inl ⟨SqL.of (hid_to _ _ h1), SqL.of (hid_to _ _ g1), q3 _ _ s1 ok1 (src_zipL h1 h2 g1 g2)⟩⟩
    | [.tuple xs, .tuple ys], .cons (.tup h1 h2) (.cons (.tup g1 g2) .nil), e' =>
      cases e'
      exact .inl ⟨_, _, _, _, rfl, .inr ⟨seqT hid_to h1, seqT hid_to g1, q3 _ _ s1 ok1 (src_zipT h1 h2 g1 g2)⟩⟩
    | [.str x, .str y], .cons (.str _) (.cons (.str _) .nil), e' =>
      rw [zipOf_s] at e'
      obtain ⟨⟨a1, a2⟩, rfl⟩ := iteSome e'
      exact .inr ⟨x, y, rfl, a1, a2, q3 _ _ s1 ok1 src_zipS⟩⟩
end
section
variable {X : Cx} {F : Fc} {fs fs1 : FI} {ft ft1 : FT} {fe : FE} {p p1 : Tg} {vs vs1 : List Nat} {elt iter tg iter1 tg1 : Expr} {ifs ifs1 : List Expr} {scope : Scope} {pos : Pos} (B : Nat)
theorem pf_lc2 {own : List (Str × Nat)} (hc : X.calm = true) (hN : X.N.Nodup) (hs : PFI X F tg iter fs) (ok : BlkOk X.N X.env.scope scope own) (hv : own.map (·.2) = vs) (hv1 : (vs1.all fun i => (own.map (·.2)).contains i) = true) (hsub : p.sub vs = true) (hsub1 : p1.sub vs1 = true)
    (hg : ∀ (s : Shared) (H : Hp) (C : Addr) (cl : List (Str × Addr)) (fp : List Addr), PFG (X.blk s H scope (compEnvC scope cl C X.env) fp) tg p) (ht : ∀ (s : Shared) (H : Hp) (C : Addr) (cl : List (Str × Addr)) (fp : List Addr), PFTs (X.blk s H scope (compEnvC scope cl C X.env) fp) F ifs ft)
    (hi1 : ∀ (s : Shared) (H : Hp) (C : Addr) (cl : List (Str × Addr)) (fp : List Addr), PFI (X.blk s H scope (compEnvC scope cl C X.env) fp) F tg1 iter1 fs1) (hg1 : ∀ (s : Shared) (H : Hp) (C : Addr) (cl : List (Str × Addr)) (fp : List Addr), PFG (X.blk s H scope (compEnvC scope cl C X.env) fp) tg1 p1)
    (ht1 : ∀ (s : Shared) (H : Hp) (C : Addr) (cl : List (Str × Addr)) (fp : List Addr), PFTs (X.blk s H scope (compEnvC scope cl C X.env) fp) F ifs1 ft1) (he : ∀ (s : Shared) (H : Hp) (C : Addr) (cl : List (Str × Addr)) (fp : List Addr), PF (X.blk s H scope (compEnvC scope cl C X.env) fp) F elt fe)
    (hK : X.K = F.K.K := by rfl) (hfo : ∀ x, foldedSetIterable iter X.env x = pure x := by intro _; rfl) (hfo1 : ∀ env x, foldedSetIterable iter1 env x = pure x := by intro _ _; rfl) :
    PF X F (.ListComp elt [⟨tg, iter, ifs, 0⟩, ⟨tg1, iter1, ifs1, 0⟩] scope pos) (fLc2 B fs p vs ft fs1 p1 vs1 ft1 fe) := by
  subst hv
  exact ⟨fun Z tk => pe_to (pe_lc2 (own := own) (g := gOf X.K p) (g1 := gOf X.K p1) hc hN (hs.pi Z tk) ok (fun i hi => by simpa using List.all_eq_true.mp hv1 i hi) (fun s H C cl fp => (hg s H C cl fp).pg) (fun s H C cl fp => (ht s H C cl fp).pts _ lk0) (fun s H C cl fp => (hi1 s H C cl fp).pi _ lk0) (fun s H C cl fp => (hg1 s H C cl fp).pg) (fun s H C cl fp => (ht1 s H C cl fp).pts _ lk0) (fun s H C cl fp => (he s H C cl fp).pe _ lk0) hfo hfo1) (lc2_run hsub hsub1 hK)⟩
end
end FL

/-! sum(a list of lists, []). -/
namespace FL
open PySem PySem.Spec PyProof.Rows L2 Gd Fx Stp LamX Lm
theorem args_sum2 (a b : Value) : argsOk "sum" ⟨[a, b], []⟩ := by unfold argsOk; kernel_rfl
theorem sub_lst_str : isSubtype (.type "list") (.type "str") = pure false := by rw [isSubtype_type]; kernel_rfl
theorem sub_lst_bytes : isSubtype (.type "list") (.type "bytes") = pure false := by rw [isSubtype_type]; kernel_rfl
theorem sub_lst_bytearray : isSubtype (.type "list") (.type "bytearray") = pure false := by rw [isSubtype_type]; kernel_rfl
def lsO (its : List Value) (n : Nat) : Obj := { cls := .type "list", dict := none, data := .seq its.toArray n, slots := #[] }
section
variable {prog : Program} {w : World} {A : Around}
/-- the lists at as in the old heap h0 -/
def AllL (h0 : Heap) : List Value → List (List Value) → Prop
  | [], [] => True
  | v :: vs, xs :: xss => (∃ a n, v = .ref a ∧ h0.get? a = some (lsO xs n)) ∧ AllL h0 vs xss
  | _, _ => False
theorem AllL.at_ {h0 : Heap} : ∀ {vs : List Value} {xss : List (List Value)} {i : Nat} {v : Value}, AllL h0 vs xss → vs[i]? = some v → ∃ a n xs, v = .ref a ∧ xss[i]? = some xs ∧ h0.get? a = some (lsO xs n)
  | [], [], _, _, _, e => by simp at e
  | [], _ :: _, _, _, h, _ => h.elim
  | _ :: _, [], _, _, h, _ => h.elim
  | v :: vs, xs :: xss, 0, _, ⟨⟨a, n, h1, h2⟩, _⟩, e => by
    cases e
    exact ⟨a, n, xs, h1, rfl, h2⟩
  | v :: vs, xs :: xss, i + 1, _, ⟨_, h⟩, e => AllL.at_ (i := i) h e
theorem AllL.length {h0 : Heap} : ∀ {vs : List Value} {xss : List (List Value)}, AllL h0 vs xss → vs.length = xss.length
  | [], [], _ => rfl
  | [], _ :: _, h => h.elim
  | _ :: _, [], h => h.elim
  | _ :: _, _ :: _, ⟨_, h⟩ => congrArg (· + 1) h.length
theorem flat_le {xss : List (List Value)} {i : Nat} {xs : List Value} (h : xss[i]? = some xs) : ((xss.take i).flatten).length + xs.length ≤ xss.flatten.length := by
  have e := List.take_append_drop i xss
  have hi : i < xss.length := (List.getElem?_eq_some_iff.mp h).1
  have d : xss.drop i = xs :: xss.drop (i + 1) := by
    rw [List.drop_eq_getElem_cons hi]
    rw [List.getElem?_eq_getElem hi] at h
    rw [Option.some.inj h]
  have l : xss.flatten.length = (xss.take i).flatten.length + (xss.drop i).flatten.length := by
    conv => lhs; rw [← e]
    rw [List.flatten_append, List.length_append]
  rw [l, d, List.flatten_cons, List.length_append]
  omega
theorem take_flat {xss : List (List Value)} {i : Nat} {xs : List Value} (h : xss[i]? = some xs) : (xss.take (i + 1)).flatten = (xss.take i).flatten ++ xs := by
  rw [List.take_add_one, h]
  simp
theorem sum_lists_loop {I ax S : Addr} {h0 : Heap} {vs : List Value} {xss : List (List Value)} {R : Result → Shared → Prop} {e0 : Addr} (hh : A.in1.handled = none) (hAll : AllL h0 vs xss) (hne : ax ≠ I) (hSI : S ≠ I) (hSx : S ≠ ax) (oldI : h0.get? I = none) (oldS : h0.get? S = none) (hz : xss.flatten.length ≤ sizeLine) (hI0 : h0.objs.size ≤ I) (hS0 : h0.objs.size ≤ S)
    (hax : h0.IsList ax vs.toArray) :
    ∀ (k i : Nat) (s : Shared) (r : Addr) (c n : Nat), vs.length - i = k → i ≤ vs.length → s.heap.IsListIter I ax i → (∀ b o, h0.get? b = some o → s.heap.get? b = some o) → s.heap.get? S = some (lsO [.ref r] c) → s.heap.get? r = some (lsO (xss.take i).flatten n) → r ≠ S → r ≠ I → (i = 0 → r = e0) → (0 < i → h0.objs.size ≤ r) →
      (∀ h' tk r' n', (∀ b o, h0.get? b = some o → h'.get? b = some o) → h'.get? r' = some (lsO xss.flatten n') → (vs = [] → r' = e0) → (vs ≠ [] → h0.objs.size ≤ r') → R (.ok (.ret (.ref r'))) { s with heap := h', toks := tk }) →
      codeAny (model prog w) A (.builtin "sum.loop" ⟨[.ref I, .ref S, rawInt 2, rawInt 0], []⟩) R s := by
  have W := Walks.list (prog := prog) (w := w) (A := A.in1) hh I ax hne vs.toArray
  intro k
  induction k with
  | zero =>
    intro i s r c n hk hi hit hold hS hr hrS hrI hr0 hr1 hR
    have hin : i = vs.length := by omega
    subst hin
    refine codeAny_builtin F.entry_sum_loop ?_
    rw [Around.under_plainId F.plain_sum_loop _]
    refine (show wpAny _ A.in1 (seqItems? (.ref S) >>= _) _ _ s from wpAny_bind (wpAny_seqItems hS rfl (show wpAny _ A.in1 (tryCatch (pyNext (.ref I)) _ >>= _) _ _ s from wpAny_bind (wpAny_tryCatch (W.done s _ _ ⟨by simpa using hit, ?_⟩ fun h2 tk hm => ?_)))))
    · obtain ⟨o, ho, h1, h2⟩ := hax
      exact ⟨o, hold _ _ ho, h1, h2⟩
    · have kp : ∀ b o, h0.get? b = some o → h2.get? b = some o := fun b o e => hm b o (fun z => by
        rw [List.mem_singleton] at z
        subst z
        rw [oldI] at e
        cases e) (hold b o e)
      have hr2 : h2.get? r = some (lsO xss.flatten n) := by
        rw [hAll.length, List.take_length] at hr
        exact hm r _ (fun z => hrI (by simpa using z)) hr
      exact wpAny_pure (hR h2 tk r n kp hr2 (fun z => hr0 (by rw [z]; rfl)) fun z => hr1 (List.length_pos_iff.mpr z))
  | succ k ih =>
    intro i s r c n hk hi hit hold hS hr hrS hrI hr0 hr1 hR
    have hlt : i < vs.toArray.size := by
      show i < vs.length
      omega
    refine codeAny_builtin F.entry_sum_loop ?_
    rw [Around.under_plainId F.plain_sum_loop _]
    refine (show wpAny _ A.in1 (seqItems? (.ref S) >>= _) _ _ s from wpAny_bind (wpAny_seqItems hS rfl (show wpAny _ A.in1 (tryCatch (pyNext (.ref I)) _ >>= _) _ _ s from wpAny_bind (wpAny_tryCatch (W.item i s _ _ hlt ⟨hit, ?_⟩ fun v h1 tk hP hst hm => ?_)))))
    · obtain ⟨o, ho, g1, g2⟩ := hax
      exact ⟨o, hold _ _ ho, g1, g2⟩
    obtain ⟨a, n1, xs, rfl, hxs, ha⟩ := hAll.at_ (i := i) (v := v) (by simpa using hP)
    have out : ∀ {b : Addr}, b ≠ I → b ∉ [I] := fun h z => h (by simpa using z)
    have hS1 : h1.get? S = some (lsO [.ref r] c) := hm S _ (out hSI) hS
    have hr1' : h1.get? r = some (lsO (xss.take i).flatten n) := hm r _ (out hrI) hr
    have old1 : ∀ b o, h0.get? b = some o → h1.get? b = some o := fun b o e => hm b o (out fun z => by
      subst z
      rw [oldI] at e
      cases e) (hold b o e)
    have ha1 : h1.get? a = some (lsO xs n1) := old1 _ _ ha
    have lz := flat_le hxs
    obtain ⟨Nn, hNn⟩ : ∃ Nn, Nn = h1.objs.size := ⟨_, rfl⟩
    have Sl : S < h1.objs.size := Heap.lt_size hS1
    have Il : I < h1.objs.size := by
      obtain ⟨o, e, _⟩ := hst.1
      exact Heap.lt_size e
    have h0l : h0.objs.size ≤ Nn := by
      rw [hNn]
      exact Nat.le_of_lt (Nat.lt_of_le_of_lt hS0 Sl)
    refine (show wpAny _ A.in1 ((holding [Value.ref a] (binaryOp .Add (.ref r) (.ref a))).attempt >>= _) _ _ _ from wpAny_bind (wpAny_attempt (wpAny_holding (PySem.P.add_list hr1' ha1 ?_ (by simpa using Nat.le_trans lz hz)))))
    have eA : (xss.take i).flatten.toArray ++ xs.toArray = (xss.take (i + 1)).flatten.toArray := by
      rw [take_flat hxs]
      simp
    rw [eA]
    have hS2 : (h1.push { cls := .type "list", data := .seq (xss.take (i + 1)).flatten.toArray }).get? S = some (lsO [.ref r] c) := Heap.get?_push_of_some _ hS1
    have hN2 : (h1.push { cls := .type "list", data := .seq (xss.take (i + 1)).flatten.toArray }).get? Nn = some (lsO (xss.take (i + 1)).flatten 0) := by
      rw [hNn]
      exact Heap.get?_push_size _ rfl
    refine (show wpAny _ A.in1 (updateSeq S (fun _ => #[.ref h1.objs.size]) >>= _) _ _ _ from wpAny_bind (wpAny_updateSeq hS2 rfl ?_))
    have hS3 := Heap.get?_update_self (Obj.mapSeq fun _ => #[Value.ref h1.objs.size]) hS2 rfl
    rw [← hNn] at hS3 ⊢
    have ne : ∀ {b : Addr} {o : Obj}, b ≠ S → (h1.push { cls := .type "list", data := .seq (xss.take (i + 1)).flatten.toArray }).get? b = some o → (((h1.push { cls := .type "list", data := .seq (xss.take (i + 1)).flatten.toArray }).update S (Obj.mapSeq fun _ => #[Value.ref Nn])).update S (Obj.mapSeq fun _ => #[Value.ref Nn])).get? b = some o := fun {b o} h e =>
      (Heap.get?_update_other _ _ (Ne.symm h)).trans ((Heap.get?_update_other _ _ (Ne.symm h)).trans e)
    have nS : (Nn : Addr) ≠ S := fun z => by
      rw [← z, ← hNn] at Sl
      exact Nat.lt_irrefl _ Sl
    have nI : (Nn : Addr) ≠ I := fun z => by
      rw [← z, ← hNn] at Il
      exact Nat.lt_irrefl _ Il
    refine wpAny_bind (wpAny_letGo (wpAny_bind (wpAny_updateSeq hS3 rfl (wpAny_pure ⟨plainId_quiet F.plain_sum_loop _, ih (i + 1) _ Nn _ 0 (by omega) hlt (hst.1.at fun o e => ne hSI.symm (Heap.get?_push_of_some _ e)) (fun b o e => ne (fun z => by
      subst z
      rw [oldS] at e
      cases e) (Heap.get?_push_of_some _ (old1 b o e))) (Heap.get?_update_self _ hS3 rfl) (ne nS hN2) nS nI (fun z => by omega) (fun _ => h0l) fun h' tk' r' n' k1 k2 k3 k4 => hR h' tk' r' n' k1 k2 k3 k4⟩))))
theorem call_sum_lists {l e0 : Addr} {vs : List Value} {xss : List (List Value)} {n0 : Nat} {s : Shared} {E : Value → Shared → Prop} {Q : Value → Shared → Prop} (hh : A.handled = none) (hAll : AllL s.heap vs xss) (hl : s.heap.IsList l vs.toArray) (he : s.heap.get? e0 = some (lsO [] n0)) (hz : xss.flatten.length ≤ sizeLine)
    (hQ : ∀ h' tk r' n', (∀ b o, s.heap.get? b = some o → h'.get? b = some o) → h'.get? r' = some (lsO xss.flatten n') → (vs = [] → r' = e0) → (vs ≠ [] → s.heap.objs.size ≤ r') → Q (.ref r') { s with heap := h', toks := tk }) :
    wpAny (model prog w) A (call (.builtin "sum") [.ref l, .ref e0]) Q E s := by
  refine call_function_tree F.kind_sum F.plain_sum F.entry_sum (args_sum2 _ _) ?_
  unfold Builtin.«sum»
  simp only [List.length_cons, List.length_nil]
  rw [if_neg (by decide)]
  refine wpAny_bind (wpAny_of_eq (show Builtin.Builtins.bindParams "sum" ["start"] 0 ⟨[.ref e0], []⟩ = pure [some (.ref e0)] from rfl) (wpAny_bind (wpAny_pyIter_list hl ?_)))
  obtain ⟨N, hN⟩ : ∃ N, N = s.heap.objs.size := ⟨_, rfl⟩
  have te : Shared.TypeIs { s with heap := s.heap.push { cls := .type "list_iterator", data := .fields #[.ref l, .int 0 0] } } (.ref e0) "list" := ⟨_, Heap.get?_push_of_some _ he, rfl⟩
  refine wpAny_bind (wpAny_pure ?_)
  simp only [List.forIn_cons, List.forIn_nil]
  refine wpAny_bind (wpAny_bind (wpAny_bind (wpAny_isInstance (T := "list") (b := false) te sub_lst_str ?_)))
  simp only [Bool.false_eq_true, if_false]
  refine wpAny_pure (wpAny_bind (wpAny_bind (wpAny_isInstance (T := "list") (b := false) te sub_lst_bytes ?_)))
  simp only [Bool.false_eq_true, if_false]
  refine wpAny_pure (wpAny_bind (wpAny_bind (wpAny_isInstance (T := "list") (b := false) te sub_lst_bytearray ?_)))
  simp only [Bool.false_eq_true, if_false]
  refine wpAny_pure (wpAny_pure (wpAny_bind (wpAny_newObj_type ?_)))
  have lt : ∀ {b o}, s.heap.get? b = some o → b < s.heap.objs.size := fun e => Heap.lt_size e
  have sz1 : (s.heap.push { cls := .type "list_iterator", data := .fields #[.ref l, .int 0 0] }).objs.size = s.heap.objs.size + 1 := Heap.size_push ..
  obtain ⟨ol, hol, _⟩ := id hl
  refine wpAny_pure ⟨plainId_quiet F.plain_sum_loop _, sum_lists_loop (I := s.heap.objs.size) (ax := l) (S := (s.heap.push { cls := .type "list_iterator", data := .fields #[.ref l, .int 0 0] }).objs.size) (h0 := s.heap) (e0 := e0) hh hAll (Nat.ne_of_lt (lt hol)) ?_ ?_ ?_ ?_ hz (Nat.le_refl _) (by rw [sz1]; exact Nat.le_succ _) hl _ 0 _ e0 0 n0 rfl (Nat.zero_le _) ⟨_, Heap.get?_push_of_some _ (Heap.get?_push_size _ rfl), rfl, rfl⟩ (fun b o e => Heap.get?_push_of_some _ (Heap.get?_push_of_some _ e)) (Heap.get?_push_size _ rfl)
    (Heap.get?_push_of_some _ (Heap.get?_push_of_some _ he)) ?_ ?_ (fun _ => rfl) (fun z => absurd z (by omega)) fun h' tk r' n' k1 k2 k3 k4 => hQ h' tk r' n' k1 k2 k3 k4⟩
  · rw [sz1]
    exact Nat.succ_ne_self _
  · rw [sz1]
    exact fun z => absurd (lt hol) (by rw [← z]; exact Nat.not_lt.mpr (Nat.le_succ _))
  · cases z : s.heap.get? s.heap.objs.size with
    | none => rfl
    | some o => exact absurd (lt z) (Nat.lt_irrefl _)
  · rw [sz1]
    cases z : s.heap.get? (s.heap.objs.size + 1) with
    | none => rfl
    | some o => exact absurd (lt z) (Nat.not_lt.mpr (Nat.le_succ _))
  · rw [sz1]
    exact fun z => absurd (lt he) (by rw [z]; exact Nat.not_lt.mpr (Nat.le_succ _))
  · exact Nat.ne_of_lt (lt he)
end
/-! ### as a built-in over data -/
def rSumL (K : PySem.W.Frag) : List V → Hp → VK → Prop := fun xs H Q => ∃ (l e0 : Addr) (as : List Addr) (xss : List (List V)), xs = [.ref l, .ref e0] ∧ SqL K H l (as.map V.ref) ∧ Paired (fun a vs => H a = some (.lst vs)) as xss ∧ H e0 = some (.lst []) ∧ xss.flatten.length ≤ sizeLine ∧ (as = [] → Q (.ref e0) H) ∧ (as ≠ [] → ∀ p, H p = none → Q (.ref p) (upd H p (.lst xss.flatten)))
section
variable {X : Cx}
theorem allL_of {pins : List (Addr × Obj)} {σ : L2.St} {H : Hp} {s : Shared} (I : L2.Inv X pins σ H s) : ∀ {as : List Addr} {xss : List (List V)}, Paired (fun a vs => H a = some (.lst vs)) as xss → ∃ yss : List (List Value), AllL s.heap (as.map Value.ref) yss ∧ Vals xss.flatten yss.flatten
  | _, _, .nil => ⟨[], trivial, .nil⟩
  | _, _, .cons h t => by
    obtain ⟨yss, h1, h2⟩ := allL_of I t
    obtain ⟨z, its, n, r, hl, e⟩ := I.lstM h
    exact ⟨its :: yss, ⟨⟨_, n, rfl, e⟩, h1⟩, r.append h2⟩
theorem vals_refs : ∀ {as : List Addr} {us : List Value}, Vals (as.map V.ref) us → us = as.map Value.ref
  | [], _, .nil => rfl
  | a :: as, _, .cons h t => by
    cases h
    rw [vals_refs t]
    rfl
theorem call_sumL (hc : X.calm = true) : CallR X (.builtin "sum") (rSumL X.K) := by
  rintro pins s σ H xs us Q I r ⟨l, e0, as, xss, rfl, hl, hp, he, hz, q1, q2⟩
  obtain ⟨u1, u2, rfl, r1, r2⟩ : ∃ u1 u2, us = [u1, u2] ∧ RelV (.ref l) u1 ∧ RelV (.ref e0) u2 := by
    cases r with
    | cons r rr =>
    cases rr with
    | cons r' rr =>
    cases rr
    exact ⟨_, _, rfl, r, r'⟩
  cases r1
  cases r2
  obtain ⟨its, rv, pl, _⟩ := I.list hl
  have ei := vals_refs rv
  subst ei
  obtain ⟨yss, a1, a2⟩ := allL_of I hp
  obtain ⟨_, its0, n0, r0, _, e0e⟩ := I.lstM he
  cases r0
  refine call_sum_lists (I.ok.hd hc) a1 pl.isList e0e (by rw [← a2.length]; exact hz) fun h' tk r' n' k1 k2 k3 k4 => ?_
  by_cases ha : as = []
  · subst ha
    rw [k3 rfl]
    exact ⟨.ref e0, H, I.kept (t' := tk) k1, rfl, q1 rfl⟩
  · have le : s.heap.objs.size ≤ r' := k4 fun z => ha (List.map_eq_nil_iff.mp z)
    exact ⟨.ref r', _, I.laid (t' := tk) (o := .lst xss.flatten) k1 le ⟨hz, yss.flatten, n', a2, k2⟩, rfl, q2 ha r' (I.hok.fresh le)⟩
end
def listsOf : List D → Option (List (List D))
  | [] => some []
  | .list ds :: r => (listsOf r).map (ds :: ·)
  | _ => none
def gSumL : List D → Option D
  | [.list ds, .list []] => (listsOf ds).bind fun xss => if xss ≠ [] ∧ xss.flatten.length ≤ 1000000 then some (.list xss.flatten) else none
  | _ => none
@[simp] theorem gSumL_l (ds : List D) : gSumL [.list ds, .list []] = (listsOf ds).bind fun xss => if xss ≠ [] ∧ xss.flatten.length ≤ 1000000 then some (.list xss.flatten) else none := rfl
theorem listsOf_map {α : Type} (f : α → List D) : ∀ l : List α, listsOf (l.map fun a => D.list (f a)) = some (l.map f)
  | [] => rfl
  | a :: l => by
    show (listsOf (l.map fun a => D.list (f a))).map (f a :: ·) = _
    rw [listsOf_map f l]
    rfl
theorem lists_ok {K : Kx} {M : List Addr} {H : Hp} : ∀ {ds : List D} {vs : List V} {xss : List (List D)}, DVs K (hid M H) vs ds → listsOf ds = some xss → ∃ (as : List Addr) (yss : List (List V)), vs = as.map V.ref ∧ Paired (fun a ys => H a = some (.lst ys)) as yss ∧ DVs K (hid M H) yss.flatten xss.flatten
  | [], _, xss, .nil, e => by
    cases e
    exact ⟨[], [], rfl, .nil, .nil⟩
  | d :: ds, _, xss, .cons h t, e => by
    cases d with
    | list zs =>
      obtain ⟨rss, e1, rfl⟩ := Option.map_eq_some_iff.mp (show (listsOf ds).map (zs :: ·) = some xss from e)
      obtain ⟨as, yss, rfl, h1, h2⟩ := lists_ok t e1
      cases h with
      | lst g1 g2 => exact ⟨_ :: as, _ :: yss, rfl, .cons (hid_to _ _ g1) h1, g2.append h2⟩
    | _ => cases e
theorem cd_sumL {X : Cx} {K : Kx} (hc : X.calm = true) : CallF X K (.builtin "sum") gSumL := fun hK => by
  refine ⟨_, call_sumL hc, fun M H vs as c Q fr ha e q => ?_⟩
  match as, ha, e with
  | [.list ds, .list []], ha, e =>
    obtain ⟨v, u, rfl, h, g⟩ := ha.two
    obtain ⟨xss, e1, e2⟩ := Option.bind_eq_some_iff.mp (show ((listsOf ds).bind fun xss => if xss ≠ [] ∧ xss.flatten.length ≤ 1000000 then some (D.list xss.flatten) else none) = some c from e)
    obtain ⟨⟨l0, l⟩, rfl⟩ := iteSome e2
    obtain ⟨a, vs, rfl, h1, h2⟩ := h.list
    obtain ⟨b, us, rfl, g1, g2⟩ := g.list
    cases g2
    obtain ⟨as, yss, rfl, p1, p2⟩ := lists_ok h2 e1
    refine ⟨a, b, as, yss, rfl, SqL.of h1, p1, g1, by rw [p2.length]; exact big l, fun z => ?_, fun _ p hp => q _ _ (same1 hp) (.lst (hid_mk (fr p hp) upd_same) (p2.same (hid_same (same1 hp))))⟩
    subst z
    cases p1
    cases h2
    cases e1
    exact absurd rfl l0
end FL

/-! Sets of texts: set(a list of texts), sorted of it. -/
namespace FL
open PySem PySem.Spec PyProof.Rows L2 Gd Fx Stp LamX Lm
def txKey (e : Int × Value) : Str := match e.2 with
  | .str x _ => x
  | _ => ⟨#[]⟩
def TxGood (w : World) (e : Int × Value) : Prop := ∃ x tk, e.2 = Value.str x tk ∧ e.1 = hashStr w x
/-- the set of texts at a: S its members, n their number -/
def SetT (w : World) (h : Heap) (a : Addr) (S : Str → Bool) (n : Nat) : Prop :=
  ∃ o es ep t, h.get? a = some o ∧ o.ExactSet ∧ o.data = .set es ep t ∧ (∀ e ∈ es.toList, TxGood w e) ∧ (es.toList.map txKey).Nodup ∧ (∀ k, S k = true ↔ k ∈ es.toList.map txKey) ∧ es.size < scanBound ∧ t.fits es.size = true ∧ es.size = n ∧ Ris t.place.toList ∧ (w.params.followText "set-order" = true ∨ t.led = true)
abbrev nwSet (w : World) : Obj := { cls := .type "set", dict := none, data := .set #[] 0 (.fresh 0 0 (!w.params.followText "set-order")) }
section
variable {P : Program} {w : World} {h h' : Heap} {a : Addr} {S : Str → Bool} {n : Nat}
theorem SetT.mv (R : SetT w h a S n) (k : ∀ o, h.get? a = some o → h'.get? a = some o) : SetT w h' a S n := let ⟨o, es, ep, t, ho, r⟩ := R; ⟨o, es, ep, t, k o ho, r⟩
theorem SetT.re {S' : Str → Bool} (R : SetT w h a S n) (e : ∀ k, S' k = S k) : SetT w h a S' n := by
  rw [show S' = S from funext e]
  exact R
theorem tx_is (x : Str) (tk : Tok) : (PySem.strKind P w).is x (.str x tk) = true := by
  show (x == x) = true
  exact beq_self_eq_true x
theorem txGood_elems {l : List (Int × Value)} (g : ∀ e ∈ l, TxGood w e) : ElemsOf (PySem.strKind P w) l := fun e he => by
  obtain ⟨x, tk, h1, h2⟩ := g e he
  refine ⟨⟨x, ?_, h2⟩, ?_⟩
  · rw [h1]
    exact tx_is x tk
  · rw [h1] <;> rfl
theorem txGood_is {e : Int × Value} (g : TxGood w e) (k : Str) : (PySem.strKind P w).is k e.2 = true ↔ txKey e = k := by
  obtain ⟨x, tk, h1, _⟩ := g
  unfold txKey
  rw [h1]
  show ((x == k) = true) ↔ x = k
  exact beq_iff_eq
theorem txGood_mem {l : List (Int × Value)} (g : ∀ e ∈ l, TxGood w e) (k : Str) : k ∈ l.map txKey ↔ ∃ e ∈ l, (PySem.strKind P w).is k e.2 = true := by
  rw [List.mem_map]
  exact ⟨fun ⟨e, he, q⟩ => ⟨e, he, (txGood_is (g e he) k).2 q⟩, fun ⟨e, he, q⟩ => ⟨e, he, (txGood_is (g e he) k).1 q⟩⟩
theorem setT_new (ho : h.get? a = some (nwSet w)) {xs : List Str} : SetT w h a (fun j => decide (j ∈ xs.take 0)) 0 :=
  ⟨_, #[], 0, _, ho, ⟨rfl, rfl, rfl⟩, rfl, (fun e he => by simp at he), (by simp), (fun k => by simp), (by decide), (by rfl), rfl, List.Pairwise.nil, by
    cases q : w.params.followText "set-order"
    · exact .inr rfl
    · exact .inl rfl⟩
end
section
variable {P : Program} {w : World} {A : Around} {E : Value → Shared → Prop} {s : Shared} {a : Addr} {S : Str → Bool} {n : Nat}
theorem setT_tail {gv : Bool → Sem Unit} (hg : ∀ (b : Bool) (s₁ : Shared) (Q' : Unit → Shared → Prop), Q' () s₁ → wpAny (model P w) A (gv b) Q' E s₁)
    {o : Obj} {es : Array (Int × Value)} {ep : Nat} {t : SetTable} (ho : s.heap.get? a = some o) (hex : o.ExactSet) (hd : o.data = .set es ep t)
    {fs : Array (Int × Value)} {t2 : SetTable} {S' : Str → Bool} (g1 : ∀ e ∈ fs.toList, TxGood w e) (d1 : (fs.toList.map txKey).Nodup) (m1 : ∀ k, S' k = true ↔ k ∈ fs.toList.map txKey)
    (b1 : fs.size < scanBound) (f2 : t2.fits fs.size = true) (hr : Ris t2.place.toList) (hl : w.params.followText "set-order" = true ∨ t2.led = true) {wasD : Bool} {R : Option Bool → Shared → Prop}
    (hR : ∀ h', Heap.SameBut a s.heap h' → SetT w h' a S' fs.size → R (some true) { s with heap := h' }) :
    wpAny (model P w) A (do
        storeSet a fs t2
        if (!wasD && t2.tooFull) = true then do
            gv (relayAll t2 fs (SetTable.grown fs.size)).2.2
            storeSet a (relayAll t2 fs (SetTable.grown fs.size)).1 (relayAll t2 fs (SetTable.grown fs.size)).2.1
            pure (some true)
          else pure (some true)) R E s := by
  have o1 := store_at (es' := fs) (t' := t2) ho hd
  have sb := Heap.SameBut.update s.heap a (Obj.putSet fs t2)
  refine wpAny_bind (wpAny_storeSet_of ho hd ?_ (fits_of_scanBound b1))
  split
  · have pm := relayAll_perm t2 fs (SetTable.grown fs.size)
    have f3 := relayAll_fits t2 fs (SetTable.grown fs.size)
    have r3 := relayAll_ris t2 fs (SetTable.grown fs.size)
    have l3 := relayAll_led t2 fs (SetTable.grown fs.size)
    generalize relayAll t2 fs (SetTable.grown fs.size) = Z at pm f3 r3 l3 ⊢
    obtain ⟨gs, t3, gave⟩ := Z
    dsimp only at pm f3 r3 l3 ⊢
    have sz : gs.size = fs.size := by rw [← Array.length_toList, pm.length_eq, Array.length_toList]
    have b2 : gs.size < scanBound := by rw [sz]; exact b1
    refine wpAny_bind (hg _ _ _ (wpAny_bind (wpAny_storeSet_of o1 rfl (wpAny_pure (hR _ (sb.trans (Heap.SameBut.update _ a _)) ?_)) (fits_of_scanBound b2))))
    exact ⟨_, gs, _, t3, store_at (es' := gs) (t' := t3) o1 rfl, hex, rfl, fun e he => g1 e (pm.mem_iff.mp he), (pm.map txKey).nodup_iff.mpr d1, fun k => (m1 k).trans (pm.map txKey).mem_iff.symm, b2, f3, sz, r3, hl.imp id fun z => by rw [l3]; exact z⟩
  · exact wpAny_pure (hR _ sb ⟨_, fs, _, t2, o1, hex, rfl, g1, d1, m1, b1, f2, rfl, hr, hl⟩)
theorem setT_add {k : Str} {tk : Tok} {Q : Bool → Shared → Prop} (R : SetT w s.heap a S n) (room : n + 1 < scanBound)
    (hQ : ∀ h', Heap.SameBut a s.heap h' → SetT w h' a (fun j => S j || decide (j = k)) (if S k = true then n else n + 1) → Q (!S k) { s with heap := h' }) :
    wpAny (model P w) A (setAddHashed a (.str k tk) ((PySem.strKind P w).hash k)) Q E s := by
  obtain ⟨o, es, ep, t, ho, hex, hd, g, nd, hm, hb, hf, hn, hr, hl⟩ := R
  have kk : (PySem.strKind P w).is k (.str k tk) = true := tx_is k tk
  have sc : (Value.str k tk).scannable = true := rfl
  have el : ElemsOf (PySem.strKind P w) es.toList := txGood_elems g
  unfold setAddHashed setAddHashedIn
  refine wpAny_holding (wpAny_bind (wpAny_setState_of ho hd hf ?_))
  dsimp only
  rw [byScan_of sc hb el]
  simp only [↓reduceIte]
  unfold setAddByScan
  refine wpAny_bind (wpAny_bind (wpAny_rule (wpAny_bind (wpAny_setScan_of kk ho hd hf el ?_))))
  cases fi : List.findIdx? (fun e => (PySem.strKind P w).is k e.2) es.toList with
  | some j =>
    dsimp only
    obtain ⟨hj, pj, _⟩ := List.findIdx?_eq_some_iff_getElem.mp fi
    have Sk : S k = true := (hm k).2 ((txGood_mem (P := P) g k).2 ⟨es.toList[j], List.getElem_mem hj, pj⟩)
    have q := hQ s.heap (Heap.SameBut.refl a s.heap) ⟨o, es, ep, t, ho, hex, hd, g, nd, fun i => by
      rw [Bool.or_eq_true, decide_eq_true_eq, ← hm i]
      exact ⟨fun z => z.elim id (fun e => e ▸ Sk), .inl⟩, hb, hf, by rw [if_pos Sk]; exact hn, hr, hl⟩
    rw [Sk] at q
    exact wpAny_pure (wpAny_pure q)
  | none =>
    dsimp only
    have nk : k ∉ es.toList.map txKey := fun z => by
      obtain ⟨e, he, q⟩ := (txGood_mem (P := P) g k).1 z
      have c := List.findIdx?_eq_none_iff.mp fi e he
      rw [q] at c
      cases c
    have Sk : S k = false := by
      cases q : S k with
      | false => rfl
      | true => exact absurd ((hm k).1 q) nk
    have gw : ∀ (b : Bool) {s₁ : Shared} {Q' : Unit → Shared → Prop}, Q' () s₁ → wpAny (model P w) A (match b with | true => rule "set.scan.the-table-gave-way" | false => pure ()) Q' E s₁ := fun b s₁ Q' q => by
      cases b
      · exact wpAny_pure q
      · exact wpAny_rule q
    have pm := layNew_perm t es ((PySem.strKind P w).hash k) (.str k tk)
    have f1 := layNew_fits t es ((PySem.strKind P w).hash k) (.str k tk)
    have r1 := layNew_ris t es ((PySem.strKind P w).hash k) (.str k tk) hr
    have l1 := layNew_led t es ((PySem.strKind P w).hash k) (.str k tk)
    generalize layNew t es ((PySem.strKind P w).hash k) (.str k tk) = Z at pm f1 r1 l1 ⊢
    obtain ⟨fs, t1, wasD, gave⟩ := Z
    dsimp only at pm f1 r1 l1 ⊢
    rw [Array.toList_push] at pm
    have pc : fs.toList.Perm (((PySem.strKind P w).hash k, Value.str k tk) :: es.toList) := pm.trans (List.perm_append_singleton _ _)
    have pk : (fs.toList.map txKey).Perm (k :: es.toList.map txKey) := pc.map txKey
    have g1 : ∀ e ∈ fs.toList, TxGood w e := fun e he => (List.mem_cons.mp (pc.mem_iff.mp he)).elim (fun z => by rw [z]; exact ⟨k, tk, rfl, rfl⟩) (g e)
    have d1 : (fs.toList.map txKey).Nodup := pk.nodup_iff.mpr (List.nodup_cons.mpr ⟨nk, nd⟩)
    have m1 : ∀ i, (S i || decide (i = k)) = true ↔ i ∈ fs.toList.map txKey := fun i => by
      rw [Bool.or_eq_true, decide_eq_true_eq, hm i, pk.mem_iff, List.mem_cons]
      exact Or.comm
    have sz : fs.size = n + 1 := by rw [← Array.length_toList, pc.length_eq, List.length_cons, Array.length_toList, hn]
    have b1 : fs.size < scanBound := by rw [sz]; exact room
    have led : w.params.followText "set-order" = true ∨ t1.led = true := hl.imp id fun z => by rw [l1]; exact z
    have fin : ∀ h', Heap.SameBut a s.heap h' → SetT w h' a (fun j => S j || decide (j = k)) fs.size → Q true { s with heap := h' } := fun h' sb r => by
      have q := hQ h' sb
      rw [Sk] at q
      rw [sz] at r
      exact q r
    refine wpAny_bind (gw _ ?_)
    split
    · refine wpAny_bind ?_
      rw [hashByValue_scannable 8 sc]
      refine wpAny_pure (setT_tail ?_ ho hex hd g1 d1 m1 b1 ?_ ?_ ?_ ?_)
      · intro b s₁ Q' q
        cases b
        · exact wpAny_pure q
        · exact wpAny_rule q
      · first | (split <;> first | exact f1 | exact SetTable.fits_plain_off f1) | exact f1
      · first | (split <;> exact r1) | exact r1
      · first | (split <;> exact led) | exact led
      · intro h' sb r
        dsimp only
        exact wpAny_pure (fin h' sb r)
    · refine wpAny_bind (wpAny_pure ?_)
      simp only [↓reduceIte]
      refine setT_tail ?_ ho hex hd g1 d1 m1 b1 f1 r1 led ?_
      · intro b s₁ Q' q
        cases b
        · exact wpAny_pure q
        · exact wpAny_rule q
      · intro h' sb r
        dsimp only
        exact wpAny_pure (fin h' sb r)
theorem strsAre_len : ∀ {vs : List Value} {xs : List Str}, StrsAre vs xs → vs.length = xs.length
  | _, _, .nil => rfl
  | _, _, .cons _ _ r => congrArg (· + 1) (strsAre_len r)
theorem strsAre_at : ∀ {vs : List Value} {xs : List Str}, StrsAre vs xs → ∀ (i : Nat) (v : Value), vs[i]? = some v → ∃ k t, xs[i]? = some k ∧ v = .str k t
  | _, _, .nil, i, v, e => by simp at e
  | _, _, .cons y t r, 0, v, e => by
    cases e
    exact ⟨y, t, rfl, rfl⟩
  | _, _, .cons y t r, i + 1, v, e => strsAre_at r i v e
/-- the walk that fills it -/
theorem setT_fill {I : Addr} {fp wr : List Addr} {G : Array GenState → Array GenState → Prop} {m : Nat} {Pv : Nat → Value → Prop} {St : Nat → Shared → Prop} {R : Result → Shared → Prop}
    (W : WalksS P w A.in1 I fp wr G m Pv St) (a : Addr) (ha : a ∉ fp) (xs : List Str) (hn : m = xs.length) (hb : xs.length + 1 < scanBound) (hval : ∀ i v, Pv i v → ∃ k t, xs[i]? = some k ∧ v = .str k t) :
    ∀ (k i : Nat) (s : Shared), m - i = k → i ≤ m → St i s → (∃ c, c ≤ i ∧ SetT w s.heap a (fun j => decide (j ∈ xs.take i)) c) →
      (∀ s' c, Moved (a :: wr) G s s' → c ≤ m → SetT w s'.heap a (fun j => decide (j ∈ xs)) c → R (.ok (.ret .none)) s') →
      codeAny (model P w) A (.builtin "set.update.loop" ⟨[.ref a, .ref I], []⟩) R s := by
  have aw : a ∉ wr := fun z => ha (W.sub _ z)
  have sub : ∀ b ∈ wr, b ∈ a :: wr := fun b z => List.mem_cons_of_mem _ z
  intro k
  induction k with
  | zero =>
    rintro i s hk hi st ⟨c, hc, hS⟩ hR
    obtain rfl : i = m := by omega
    refine codeAny_builtin F.entry_set_update_loop ?_
    rw [Around.under_plainId F.plain_set_update_loop _]
    refine (show wpAny _ A.in1 (pyNext (.ref I) >>= _) _ _ s from wpAny_bind (W.done s _ _ st fun s' hm => ?_))
    rw [List.take_of_length_le (by omega)] at hS
    exact (show wpAny _ A.in1 (ret Value.none) _ _ s' from wpAny_pure (hR s' c (hm.mono sub) hc (hS.mv fun o e => hm.heap a o aw e)))
  | succ k ih =>
    rintro i s hk hi st ⟨c, hc, hS⟩ hR
    have lt : i < m := by omega
    refine codeAny_builtin F.entry_set_update_loop ?_
    rw [Around.under_plainId F.plain_set_update_loop _]
    refine (show wpAny _ A.in1 (pyNext (.ref I) >>= _) _ _ s from wpAny_bind (W.item i s _ _ lt st fun v s' hP st' hm => ?_))
    obtain ⟨z, t, hz, rfl⟩ := hval i v hP
    have hS' : SetT w s'.heap a (fun j => decide (j ∈ xs.take i)) c := hS.mv fun o e => hm.heap a o aw e
    refine (show wpAny _ A.in1 (holding [Value.str z t] (setAdd a (.str z t)) >>= _) _ _ s' from wpAny_bind (wpAny_holding ?_))
    unfold setAdd
    refine wpAny_holding (wpAny_bind ((PySem.strKind P w).pyHash (k := z) (tx_is z t) (setT_add (s := { s' with toks := s'.toks + 1 }) hS' (by omega) fun h' sb hS2 => ?_)))
    have hS3 : SetT w h' a (fun j => decide (j ∈ xs.take (i + 1))) (if decide (z ∈ xs.take i) = true then c else c + 1) := hS2.re fun j => by
      rw [List.take_add_one, hz]
      simp [List.mem_append]
    have c3 : (if decide (z ∈ xs.take i) = true then c else c + 1) ≤ i + 1 := by
      split <;> omega
    refine wpAny_pure ⟨plainId_quiet F.plain_set_update_loop _, ih (i + 1) _ (by omega) lt (W.frame _ s' _ _ st' (Nat.le_succ _) fun b hb o e => ?_) ⟨_, c3, hS3⟩ fun s'' c2 hm2 hc2 hS4 => ?_⟩
    · rw [sb.2 b fun q : b = a => ha (by rw [← q]; exact hb)]
      exact e
    · refine hR s'' c2 (Moved.trans W.gtrans ((hm.mono sub).then_heap (Nat.le_succ _) fun b o hb e => ?_) hm2) hc2 hS4
      rw [sb.2 b fun q : b = a => hb (by rw [q]; exact List.mem_cons_self)]
      exact e
/-- set(l), l a list of texts -/
theorem call_setTx {l : Addr} {items : Array Value} (xs : List Str) {Q : Value → Shared → Prop} (hh : A.handled = none) (hl : s.heap.IsList l items) (hit : StrsAre items.toList xs) (hb : xs.length + 1 < scanBound)
    (hQ : ∀ (h' : Heap) (tk c : Nat), SetT w h' s.heap.objs.size (fun j => decide (j ∈ xs)) c → c ≤ xs.length → (∀ b o, s.heap.get? b = some o → h'.get? b = some o) → Q (.ref s.heap.objs.size) { s with heap := h', toks := tk }) :
    wpAny (model P w) A (call (.type "set") [.ref l]) Q E s := by
  have sz : items.size = xs.length := by
    rw [← Array.length_toList]
    exact strsAre_len hit
  have hval : ∀ (i : Nat) (v : Value), items[i]? = some v → ∃ k t, xs[i]? = some k ∧ v = .str k t := fun i v e => strsAre_at hit i v (by rw [Array.getElem?_toList]; exact e)
  obtain ⟨c, tl, hmro⟩ := F.called_set.mro
  have a1 := F.called_set.made
  have a2 := F.called_set.sub
  have a3 := F.called_set.notType
  have a4 := F.called_set.canCreate
  have a5 := F.typeCall_set_1 (.ref l)
  refine wpAny_call (codeAny_of_tree (show wpAny _ _ (callAny (.type "set") _) _ _ _ from wpAny_pure ⟨Code.quiet_builtin _ (by decide +kernel), codeAny_builtin F.entry_type_call ?_⟩))
  rw [Around.under_plain (weight_type_call_type "set" [.ref l] []) rfl]
  all_goals repeat (any_goals (first | assumption | wp_step))
  refine codeAny_mono (code_set_led1 (.ref l) (E := E) (Q₁ := fun obj s₁ => obj = .ref s.heap.objs.size ∧ s₁ = { s with heap := s.heap.push (nwSet w) }) ⟨rfl, rfl⟩) fun r s₁ hr => ?_
  cases r with
  | error e => exact hr
  | ok fl =>
    cases fl with
    | ret obj =>
      obtain ⟨rfl, rfl⟩ := hr
      have g0 : (s.heap.push (nwSet w)).get? s.heap.objs.size = some (nwSet w) := Heap.get?_push_size _ rfl
      have T0 : Shared.TypeIs { s with heap := s.heap.push (nwSet w) } (.ref s.heap.objs.size) "set" := ⟨_, g0, rfl⟩
      have i1 := F.called_set.init.lookup
      have i2 := F.called_set.init.bind (.ref s.heap.objs.size)
      all_goals repeat (any_goals (first | assumption | wp_step))
      refine codeAny_mono (codeAny_call_builtin (R := wants (fun r s₂ => r = .none ∧ ∃ h' tk c, s₂ = { s with heap := h', toks := tk } ∧ SetT w h' s.heap.objs.size (fun j => decide (j ∈ xs)) c ∧ c ≤ xs.length ∧ (∀ b o, s.heap.get? b = some o → h'.get? b = some o)) E) F.called_set.init.plain F.entry_set_init (check_set_init_1 T0 ?_)) fun r₂ s₂ hr₂ => ?_
      · obtain ⟨⟨ocls, odict, odata, oslots⟩, hol, hcl, nl, hdl⟩ := hl
        simp only at hcl hdl
        subst hcl
        subst hdl
        have hol2 : (s.heap.push (nwSet w)).get? l = some { cls := .type "list", dict := odict, data := .seq items nl, slots := oslots } := Heap.get?_push_of_some _ hol
        have b1 := F.sub_list_set
        have b2 := F.sub_list_frozenset
        have b3 : (Value.type "list" == Value.type "dict") = false := by decide
        have l1 : (s.heap.push (nwSet w)).IsList l items := ⟨_, hol2, rfl, nl, rfl⟩
        unfold Builtin.«set.__init__» noKeywords Builtin.Frozenset.updateFrom
        generalize hPI : pyIter = PI
        wp_walk
        subst hPI
        refine wpAny_pyIter_list l1 (wpAny_bind (wpAny_runValue ?_))
        have lS : l < s.heap.objs.size := Heap.lt_size hol
        have h3 : A.in1.in1.in1.handled = none := by simp [hh]
        have z1 : (s.heap.push (nwSet w)).objs.size = s.heap.objs.size + 1 := Heap.size_push ..
        have nI : l ≠ (s.heap.push (nwSet w)).objs.size := by
          rw [z1]
          exact Nat.ne_of_lt (Nat.lt_succ_of_lt lS)
        have nf : s.heap.objs.size ∉ [(s.heap.push (nwSet w)).objs.size, l] := by
          rw [z1]
          simp only [List.mem_cons, List.not_mem_nil, or_false, not_or]
          exact ⟨Nat.ne_of_lt (Nat.lt_succ_self _), Nat.ne_of_gt lS⟩
        refine setT_fill ((Walks.list h3 _ l nI items).toS) s.heap.objs.size nf xs sz hb hval (items.size - 0) 0 _ (by omega) (Nat.zero_le _) ⟨⟨_, Heap.get?_push_size _ rfl, rfl, rfl⟩, (l1.push _)⟩ ⟨0, Nat.le_refl 0, setT_new (Heap.get?_push_of_some _ g0)⟩ ?_
        rintro ⟨h', g2, d', tk', os'⟩ c' hm hc' hS'
        have eg : g2 = s.gens := hm.gens
        have ed : d' = s.drawn := hm.drawn
        have eo : os' = s.os := hm.os
        subst eg ed eo
        rw [sz] at hc'
        refine (show wpAny _ _ _ _ _ _ from wpAny_pure (show wpAny _ _ (ret Value.none) _ _ _ from wpAny_pure ⟨rfl, h', tk', c', rfl, hS', hc', fun b o e => ?_⟩))
        have lt : b < s.heap.objs.size := Heap.lt_size e
        refine hm.heap b o ?_ (Heap.get?_push_of_some _ (Heap.get?_push_of_some _ e))
        simp only [List.mem_cons, List.not_mem_nil, or_false, not_or]
        exact ⟨Nat.ne_of_lt lt, by rw [z1]; exact Nat.ne_of_lt (Nat.lt_succ_of_lt lt)⟩
      · cases r₂ with
        | error e => exact hr₂
        | ok fl₂ =>
          cases fl₂ with
          | ret r =>
            obtain ⟨rfl, h', tk, c', rfl, hS', hc', hk'⟩ := hr₂
            all_goals repeat (any_goals (first | assumption | wp_step))
            exact hQ _ _ _ hS' hc' hk'
          | _ => exact hr₂.elim
    | _ => exact hr.elim
end
end FL

/-! sorted(set(a list of texts)). -/
namespace FL
abbrev SB : Nat := 1000
open PySem PySem.Spec PyProof.Rows L2 Gd Fx Stp LamX Lm
theorem strs_are : ∀ (l : List Value), (∀ v ∈ l, ∃ k tk, v = Value.str k tk) → StrsAre l (l.map fun v => txKey (0, v))
  | [], _ => .nil
  | v :: l, h => by
    obtain ⟨k, tk, rfl⟩ := h v List.mem_cons_self
    exact .cons k tk (strs_are l fun u hu => h u (List.mem_cons_of_mem _ hu))
section
variable {P : Program} {w : World} {A : Around} {E : Value → Shared → Prop} {s : Shared} {a : Addr} {S : Str → Bool} {n : Nat}
theorem sorted_setT {Q : Value → Shared → Prop} (R : SetT w s.heap a S n) (hh : A.handled = none) (hz : n ≤ 1000000)
    (hQ : ∀ s' p (out : Array Value) (c : Nat) (xs : List Str), (∀ b o, s.heap.get? b = some o → s'.heap.get? b = some o) → s'.gens = s.gens → s'.os = s.os → s.heap.objs.size ≤ p → s'.heap.get? p = some (seqObj "list" out c) → StrsAre out.toList xs → sortedS xs = true → xs.Nodup → (∀ k, k ∈ xs ↔ S k = true) → xs.length = n → Q (.ref p) s') :
    wpAny (model P w) A (call (.builtin "sorted") [.ref a]) Q E s := by
  obtain ⟨o, es, ep, t, ho, hex, hd, g, nd, hm, hb, hf, hn, hr, hl⟩ := R
  refine Calls.call_function_entry kind_sorted plain_sorted entry_sorted (args_sorted1 _) ?_
  unfold Builtin.«sorted»
  refine wpAny_bind (m := checkCount "sorted" 1 1 _) (wpAny_pure (wpAny_bind (collect_set (A := A.in1) hh ⟨o, ho, hex.1, hd⟩ hf hb hr hl fun s1 vs k1 z1 e1 o1 pm => ?_)))
  have vl : vs.length = n := by rw [pm.length_eq, List.length_map, Array.length_toList]; exact hn
  have vS : StrsAre vs (vs.map fun v => txKey (0, v)) := strs_are vs fun v hv => by
    obtain ⟨e, he, q⟩ := List.mem_map.mp (pm.mem_iff.mp hv)
    obtain ⟨k, tk, h1, _⟩ := g e he
    exact ⟨k, tk, by rw [← q]; exact h1⟩
  have pk : (vs.map fun v => txKey (0, v)).Perm (es.toList.map txKey) := by
    have q := pm.map fun v => txKey (0, v)
    rw [List.map_map] at q
    exact q
  have sl : n ≤ sizeLine := Nat.le_trans hz (by decide)
  refine wpAny_bind (wpAny_newList ?_ (by rw [vl]; exact sl))
  have hL : (s1.heap.push (seqObj "list" vs.toArray 0)).get? s1.heap.objs.size = some (seqObj "list" vs.toArray 0) := Heap.get?_push_size _ rfl
  refine wpAny_bind (wpAny_holding (wpAny_call_entry slot_list_sort ⟨_, hL, rfl⟩ entry_list_sort (list_sort_treeKAny strKind_oneLt hL vS.keysOf (fun v₁ v₂ rest e => keyKind_strs (by rw [← e]; exact vS)) (by rw [vl]; exact sl) fun st' hp hs => ⟨_, rfl, ?_⟩) (args_list_sort _)))
  obtain ⟨xs, a1, a2, a3⟩ := sorted_out_str vS hp hs
  obtain ⟨c, hc⟩ := sortedHeap_at (vs := vs) (out := (arrOf st').map (·.2)) hL
  have pn : xs.Perm (es.toList.map txKey) := a2.trans pk
  refine wpAny_pure ⟨_, rfl, hQ _ s1.heap.objs.size _ c xs (fun b u e => ?_) e1 o1 z1 hc a1 a3 (pn.nodup_iff.mpr nd) (fun k => by rw [pn.mem_iff, ← hm k]) ?_⟩
  · have q := k1 b u e
    have lt := Heap.lt_size q
    show (sortedHeap (s1.heap.push (seqObj "list" vs.toArray 0)) s1.heap.objs.size vs _).get? b = some u
    rw [sortedHeap_old (Nat.ne_of_lt lt) (by rw [size_push']; exact Nat.lt_succ_of_lt lt)]
    exact Heap.get?_push_of_some _ q
  · rw [pn.length_eq, List.length_map, Array.length_toList]
    exact hn
end
def SetTO (w : World) (a : Addr) (S : Str → Bool) (n : Nat) : HO := .ext fun h => SetT w h a S n
theorem setTO_ok {P : Program} {w : World} {H : Hp} {h : Heap} {a : Addr} {S : Str → Bool} {n : Nat} (R : SetT w h a S n) : ObjOk P w H h a (SetTO w a S n) := by
  have ⟨o, _, _, _, ho, _⟩ := R
  exact ⟨R, ⟨o, ho⟩, fun h1 h2 p k => p.mv k⟩
section
variable {X : Cx}
theorem call_setS (hc : X.calm = true) : CallR X (.type "set") (fun vs H Q => ∃ (l : Addr) (xs : List Str), vs = [.ref l] ∧ SqL X.K H l (xs.map V.str) ∧ xs.length ≤ SB ∧ ∀ p c, c ≤ xs.length → H p = none → Q (.ref p) (upd H p (SetTO X.w p (fun j => decide (j ∈ xs)) c))) := by
  rintro pins s σ H vs us Q I r ⟨l, xs, rfl, hl, hz, q⟩
  obtain ⟨u, rfl, rx⟩ := vals1 r
  cases rx
  obtain ⟨its, rv, pl, _⟩ := I.list hl
  refine call_setTx xs (I.ok.hd hc) pl.isList (by simpa using rv.strs) (Nat.lt_of_le_of_lt (Nat.succ_le_succ hz) (by decide)) fun h' tk c hS hc kp => ?_
  exact ⟨.ref s.heap.objs.size, _, I.laid (t' := tk) kp (Nat.le_refl _) (setTO_ok hS), rfl, q _ c hc (I.hok.fresh (Nat.le_refl _))⟩
theorem call_sortedSetS (hc : X.calm = true) : CallR X (.builtin "sorted") (fun vs H Q => ∃ (a : Addr) (S : Str → Bool) (n : Nat), vs = [.ref a] ∧ H a = some (SetTO X.w a S n) ∧ n ≤ 1000000 ∧ ∀ (xs : List Str) (p : Addr), sortedS xs = true → xs.Nodup → (∀ k, k ∈ xs ↔ S k = true) → xs.length = n → H p = none → Q (.ref p) (upd H p (.lst (xs.map V.str)))) := by
  rintro pins s σ H vs us Q I r ⟨a, S, n, rfl, ha, hn, q⟩
  obtain ⟨u, rfl, rx⟩ := vals1 r
  cases rx
  have R : SetT X.w s.heap a S n := (show ObjOk X.prog X.w H s.heap a (SetTO X.w a S n) from I.hok a _ ha).1
  refine sorted_setT R (I.ok.hd hc) hn fun s' p out c xs k1 g1 o1 hp e1 hS h1 h2 h3 h4 => ?_
  have len : (xs.map V.str).length ≤ sizeLine := by
    rw [List.length_map, h4]
    exact Nat.le_trans hn (by decide)
  have fr : H p = none := I.hok.fresh hp
  have J : L2.Inv X pins σ (upd H p (.lst (xs.map V.str))) { s with heap := s'.heap, gens := s'.gens, drawn := s'.drawn, toks := s'.toks } :=
    I.call (ch := []) (Un.laid k1 hp fr) (I.hok.laid k1 hp ⟨len, out.toList, c, vals_of_strs hS, e1⟩) (by rw [g1]; exact I.bare) (fun _ z => by cases z)
  have es : s' = { s with heap := s'.heap, gens := s'.gens, drawn := s'.drawn, toks := s'.toks } := by
    obtain ⟨_, _, _, _, _⟩ := s'
    cases o1
    rfl
  rw [es]
  exact ⟨.ref p, _, J, rfl, q xs p h1 h2 h3 h4 fr⟩
end
/-! ### as a function of the slots -/
def uniqS : List Str → List Str
  | [] => []
  | x :: xs => if x ∈ uniqS xs then uniqS xs else x :: uniqS xs
theorem uniqS_mem : ∀ (xs : List Str) (k : Str), k ∈ uniqS xs ↔ k ∈ xs
  | [], k => Iff.rfl
  | x :: xs, k => by
    unfold uniqS
    by_cases h : x ∈ uniqS xs
    · rw [if_pos h, uniqS_mem xs, List.mem_cons]
      refine ⟨.inr, fun z => z.elim (fun e => ?_) id⟩
      rw [e]
      exact (uniqS_mem xs x).mp h
    · rw [if_neg h, List.mem_cons, List.mem_cons, uniqS_mem xs]
theorem uniqS_nodup : ∀ xs : List Str, (uniqS xs).Nodup
  | [] => .nil
  | x :: xs => by
    unfold uniqS
    by_cases h : x ∈ uniqS xs
    · rw [if_pos h]
      exact uniqS_nodup xs
    · rw [if_neg h]
      exact List.nodup_cons.mpr ⟨h, uniqS_nodup xs⟩
theorem sset_eq {xs ys : List Str} (h1 : sortedS ys = true) (h2 : ys.Nodup) (h3 : ∀ k, k ∈ ys ↔ k ∈ xs) : ys = sortS (uniqS xs) := by
  have pm : ys.Perm (uniqS xs) := (List.perm_ext_iff_of_nodup h2 (uniqS_nodup xs)).mpr fun k => (h3 k).trans (uniqS_mem xs k).symm
  exact sorted_is pm h1
def gSset : List D → Option D
  | [.list ds] => (txts ds).bind fun xs => if xs.length ≤ SB then some (.list ((sortS (uniqS xs)).map .str)) else none
  | _ => none
@[simp] theorem gSset_l (ds : List D) : gSset [.list ds] = (txts ds).bind fun xs => if xs.length ≤ SB then some (.list ((sortS (uniqS xs)).map .str)) else none := rfl
def fSset (f : FE) : FE := fun δ => (f δ).bind fun w => w.rd.bind fun x => (T.of (gSset [x])).bind fun d => .ret (.d d)
@[simp] theorem fSset_def (f : FE) (δ : Sl) : fSset f δ = (f δ).bind fun w => w.rd.bind fun x => (T.of (gSset [x])).bind fun d => .ret (.d d) := rfl
section
variable {X : Cx} {F : Fc} {e : Expr} {f : FE} {p p2 pos pos2 : Pos}
theorem pf_sset (hc : X.calm = true) (hg : Gl X "sorted") (hm : X.mg "sorted" = none) (hg2 : Gl X "set") (hm2 : X.mg "set" = none) (h : PF X F e f) (hK : X.K = F.K.K := by rfl)
    (he : starEach [.Call (.Name "set" p2) [e] [] pos2] X.env = (false, eval (.Call (.Name "set" p2) [e] [] pos2) X.env) :: starEach [] X.env := by rfl) (hpl : (backTo pos (starEach [] X.env)).any (·.1) = false := by rfl)
    (he2 : starEach [e] X.env = (false, eval e X.env) :: starEach [] X.env := by rfl) (hpl2 : (backTo pos2 (starEach [] X.env)).any (·.1) = false := by rfl) :
    PF X F (.Call (.Name "sorted" p) [.Call (.Name "set" p2) [e] [] pos2] [] pos) (fSset f) :=
  ⟨fun Z tk => pe_to (pe_callB (call_sortedSetS hc) hg hm (by decide +kernel) (pa_cons (pe_callTy (call_setS hc) hg2 hm2 (by decide +kernel) (pa_cons (h.pe Z tk) pa_nil he2) (by decide) (by decide) he2 hpl2) pa_nil he) (by decide) (by decide) he hpl) fun σ H Q ⟨M, δ, n, ok, q⟩ => goE ok ((T.wp_bind _ _).mp q) fun w n1 v H1 q1 s1 ok1 v1 => by
    obtain ⟨x, hx, q2⟩ := rv_rd v1 ((T.wp_bind _ _).mp q1)
    obtain ⟨d, ed, q3⟩ := T.wp_of.mp ((T.wp_bind _ _).mp q2)
    match x, hx, ed with
    | .list ds, hx, ed =>
      rw [gSset_l] at ed
      obtain ⟨xs, e1, e2⟩ := Option.bind_eq_some_iff.mp ed
      obtain ⟨l, rfl⟩ := iteSome e2
      obtain ⟨a, vs, rfl, h1, h2⟩ := hx.list
      rw [txts_ok h2 e1] at h1
      refine ⟨a, xs, rfl, SqL.of h1, l, fun p c hc hp => ⟨p, _, c, rfl, upd_same, Nat.le_trans hc (Nat.le_trans l (by decide)), fun ys p3 y1 y2 y3 y4 hp3 => ?_⟩⟩
      rw [sset_eq y1 y2 fun k => (y3 k).trans (decide_eq_true_iff)]
      have s2 : Same H1 (upd (upd H1 p (SetTO X.w p (fun j => decide (j ∈ xs)) c)) p3 (.lst ((sortS (uniqS xs)).map V.str))) := (same1 hp).trans (same1 hp3)
      have np : p3 ∉ M := fun z => by
        obtain ⟨o, eo⟩ := ok1.al p3 z
        rw [(same1 hp) _ _ eo] at hp3
        cases hp3
      exact q3 _ _ (s1.trans (Kp.of s2)) (ok1.same s2) (.lst (hid_mk np upd_same) (dvStrs _))⟩
end
end FL

/-! Dicts whose keys are texts or integers: read, asked, displayed. -/
namespace FL
open PySem PySem.Spec PyProof.Rows L2 Gd Fx Stp LamX Lm
def toKey : D → Option Key
  | .str x => some (.inr x)
  | .int i => some (.inl i)
  | _ => none
@[simp] theorem toKey_s (x : Str) : toKey (.str x) = some (.inr x) := rfl
@[simp] theorem toKey_i (i : Int) : toKey (.int i) = some (.inl i) := rfl
def dLook : List (D × D) → Key → Option D
  | [], _ => none
  | (k, d) :: r, j => if toKey k = some j then some d else dLook r j
@[simp] theorem dLook_nil (j : Key) : dLook [] j = none := rfl
@[simp] theorem dLook_cons (k d : D) (r : List (D × D)) (j : Key) : dLook ((k, d) :: r) j = if toKey k = some j then some d else dLook r j := rfl
def dPut : List (D × D) → D → D → List (D × D)
  | [], k, v => [(k, v)]
  | (k0, d) :: r, k, v => if toKey k0 = toKey k then (k0, v) :: r else (k0, d) :: dPut r k v
theorem toKey_keyD (k : Key) : toKey (keyD k) = some k := by cases k <;> rfl
theorem toKey_ok {d : D} {k : Key} (h : toKey d = some k) : d = keyD k := by
  cases d <;> cases h <;> rfl
section
variable {K : Kx} {G : Hp}
theorem DVk.look : ∀ {kvs : List (Key × V)} {es : List (D × D)} {j : Key} {d : D}, DVk K G kvs es → dLook es j = some d → ∃ v, valV kvs j = some v ∧ DV K G v d
  | _, _, j, d, .nil, e => by cases e
  | (k, v) :: kvs, (_, d0) :: es, j, d, .cons h t, e => by
    rw [dLook_cons, toKey_keyD] at e
    by_cases z : k = j
    · rw [if_pos (by rw [z])] at e
      cases e
      exact ⟨v, valV_pos z, h⟩
    · rw [if_neg fun q => z (Option.some.inj q)] at e
      rw [valV_neg z]
      exact t.look e
theorem DVk.lack : ∀ {kvs : List (Key × V)} {es : List (D × D)} {j : Key}, DVk K G kvs es → dLook es j = none → valV kvs j = none
  | _, _, j, .nil, e => rfl
  | (k, v) :: kvs, (_, d0) :: es, j, .cons h t, e => by
    rw [dLook_cons, toKey_keyD] at e
    by_cases z : k = j
    · rw [if_pos (by rw [z])] at e
      cases e
    · rw [if_neg fun q => z (Option.some.inj q)] at e
      rw [valV_neg z]
      exact t.lack e
theorem RV.key {M : List Addr} {H : Hp} {v : V} {d : D} {k : Key} (h : RV K M H v d) (e : toKey d = some k) : v = kV k := by
  match d, h, e with
  | .str x, h, e =>
    cases e
    exact h.str
  | .int i, h, e =>
    cases e
    exact h.int
end
def dIx2 : D → D → Option D
  | .dict es, k => (toKey k).bind fun j => dLook es j
  | x, k => dIx x k
@[simp] theorem dIx2_d (es : List (D × D)) (k : D) : dIx2 (.dict es) k = (toKey k).bind fun j => dLook es j := rfl
@[simp] theorem dIx2_l (xs : List D) (k : D) : dIx2 (.list xs) k = dIx (.list xs) k := by cases k <;> rfl
@[simp] theorem dIx2_t (xs : List D) (k : D) : dIx2 (.tuple xs) k = dIx (.tuple xs) k := by cases k <;> rfl
@[simp] theorem dIx2_s (x : Str) (k : D) : dIx2 (.str x) k = dIx (.str x) k := by cases k <;> rfl
@[simp] theorem dIx_s (x : Str) (i : Int) : dIx (.str x) (.int i) = if x.length ≤ 1000000 then (L2.atI x.cps.toList i).map fun c => .str ⟨#[c]⟩ else none := rfl
def rIxD : R2 := fun x y H Q => ∃ a v, x = .ref a ∧ DGet H a y (some v) ∧ Q v H
section
variable {X : Cx}
theorem ix_dict (hu : X.A.units + 1 < cLine) : IxR X rIxD := by
  rintro value slice pins s σ H x y v u Q I rx ry ⟨a, z, rfl, g, q⟩ hs
  obtain rfl : v = Value.ref a := rx
  exact tail_any (dict_typeIs I g) PySem.F.slot_dict_getitem.lookup (d_getItem hu I g ry fun w' s2 I2 rw' => ⟨z, H, I2, rw', q⟩) hs
theorem op_inDict (hu : X.A.units + 1 < cLine) : OpR X (compareOp .In) (fun y x H Q => ∃ a o, x = .ref a ∧ DGet H a y o ∧ Q (.bl o.isSome) H) := by
  rintro pins s σ H y x v u Q I ry rx ⟨a, o, rfl, g, q⟩
  obtain rfl : u = Value.ref a := rx
  exact d_in hu I g ry fun s2 I2 => ⟨.bl o.isSome, H, I2, rfl, q⟩
theorem op_notinDict (hu : X.A.units + 1 < cLine) : OpR X (compareOp .NotIn) (fun y x H Q => ∃ a o, x = .ref a ∧ DGet H a y o ∧ Q (.bl (!o.isSome)) H) := by
  rintro pins s σ H y x v u Q I ry rx ⟨a, o, rfl, g, q⟩
  obtain rfl : u = Value.ref a := rx
  exact d_notIn hu I g ry fun s2 I2 => ⟨.bl (!o.isSome), H, I2, rfl, q⟩
end
section
variable {X : Cx} {F : Fc} {a b : Expr} {f1 f2 : FE} {pos : Pos}
theorem u65 (hu : X.A.units + 65 < cLine) : X.A.units + 1 < cLine := by omega
theorem ixd_to (hK : X.K = F.K.K) {Z : ZF} : ∀ σ H Q, tE F Z (fOp dIx2 f1 f2) σ H Q → tOp (fun x y H Q => rIx X.K x y H Q ∨ rIxD x y H Q) (tE F Z f1) (tE F Z f2) σ H Q := fop_to fun M H v u a b c Q fr ha hb e q => by
  cases a with
  | dict es =>
    obtain ⟨j, e1, e2⟩ := Option.bind_eq_some_iff.mp (show ((toKey b).bind fun j => dLook es j) = some c from e)
    obtain ⟨p, kvs, rfl, h1, h2⟩ := ha.dict
    obtain ⟨z, h3, h4⟩ := h2.look e2
    refine .inr ⟨p, z, rfl, .inl ⟨kvs, j, .inl h1, hb.key e1, h3.symm⟩, q z H (Same.refl _) h4⟩
  | list xs =>
    cases b with
    | int i =>
      obtain ⟨p, vs, rfl, h1, h2⟩ := ha.list
      cases hb.int
      obtain ⟨z, h3, h4⟩ := atI_ok h2 (show atI xs i = some c from e)
      exact .inl (.inl ⟨p, vs, i, z, rfl, rfl, SqL.of h1, h3, q z H (Same.refl _) h4⟩)
    | _ => cases e
  | tuple xs =>
    cases b with
    | int i =>
      obtain ⟨p, vs, rfl, h1, h2, _⟩ := ha.tuple
      cases hb.int
      obtain ⟨z, h3, h4⟩ := atI_ok h2 (show atI xs i = some c from e)
      exact .inl (.inr (.inl ⟨p, vs, i, z, rfl, rfl, by rw [hK]; exact h1, h3, q z H (Same.refl _) h4⟩))
    | _ => cases e
  | str x =>
    cases b with
    | int i =>
      cases ha.str
      cases hb.int
      obtain ⟨l, e'⟩ := pf_at.iteSome' (show (if x.length ≤ 1000000 then (atI x.cps.toList i).map fun c => D.str ⟨#[c]⟩ else none) = some c from e)
      obtain ⟨s, es, rfl⟩ := Option.map_eq_some_iff.mp e'
      exact .inl (.inr (.inr ⟨x, i, s, rfl, rfl, big l, es, q _ H (Same.refl _) (.str _)⟩))
    | _ => cases e
  | _ => cases b <;> cases e
theorem pf_ix2 (hu : X.A.units + 65 < cLine) (ha : PF X F a f1) (hb : PF X F b f2) (hs : PlainIx b) (hK : X.K = F.K.K := by rfl) : PF X F (.Subscript a b pos) (fOp dIx2 f1 f2) :=
  ⟨fun Z tk => pe_to (pe_ix (ix_seq.or (ix_dict (u65 hu))) (ha.pe Z tk) (hb.pe Z tk) hs) (ixd_to hK)⟩
end
/-! ### in, not in -/
def dIn2 : D → D → Option D
  | k, .dict es => (toKey k).map fun j => .bool (dLook es j).isSome
  | x, y => dIn x y
def dNotIn2 (a b : D) : Option D := notD (dIn2 a b)
@[simp] theorem dIn2_d (es : List (D × D)) (k : D) : dIn2 k (.dict es) = (toKey k).map fun j => .bool (dLook es j).isSome := by cases k <;> rfl
@[simp] theorem dIn2_l (xs : List D) (k : D) : dIn2 k (.list xs) = dIn k (.list xs) := by cases k <;> rfl
@[simp] theorem dIn2_t (xs : List D) (k : D) : dIn2 k (.tuple xs) = dIn k (.tuple xs) := by cases k <;> rfl
@[simp] theorem dIn2_s (x : Str) (k : D) : dIn2 k (.str x) = dIn k (.str x) := by cases k <;> rfl
@[simp] theorem dNotIn2_def (a b : D) : dNotIn2 a b = notD (dIn2 a b) := rfl
section
variable {X : Cx} {K : Kx}
theorem dict_get {M : List Addr} {H : Hp} {v u : V} {a : D} {es : List (D × D)} {j : Key} (ha : RV K M H v a) (hb : RV K M H u (.dict es)) (e1 : toKey a = some j) : ∃ p o, u = .ref p ∧ DGet H p v o ∧ o.isSome = (dLook es j).isSome := by
  obtain ⟨p, kvs, rfl, h1, h2⟩ := hb.dict
  refine ⟨p, valV kvs j, rfl, .inl ⟨kvs, j, .inl h1, ha.key e1, rfl⟩, ?_⟩
  cases z : dLook es j with
  | none =>
    rw [h2.lack z]
    rfl
  | some d =>
    obtain ⟨w, h3, _⟩ := h2.look z
    rw [h3]
    rfl
theorem od_in2 (hu : X.A.units + 65 < cLine) : OpF X K (compareOp .In) dIn2 := fun hK => by
  obtain ⟨r, h1, h2⟩ := od_in (X := X) (K := K) hu hK
  refine ⟨_, opR_or h1 (op_inDict (u65 hu)), fun M H v u a b c Q fr ha hb e q => ?_⟩
  by_cases hd : ∃ es, b = .dict es
  · obtain ⟨es, rfl⟩ := hd
    rw [dIn2_d] at e
    obtain ⟨j, e1, rfl⟩ := Option.map_eq_some_iff.mp e
    obtain ⟨p, o, rfl, g, ho⟩ := dict_get ha hb e1
    exact .inr ⟨p, o, rfl, g, by rw [ho]; exact q _ H (Same.refl _) (.bl _)⟩
  · refine .inl (h2 M H v u a b c Q fr ha hb ?_ q)
    rw [← e]
    cases b <;> first | (cases a <;> rfl) | exact absurd ⟨_, rfl⟩ hd
theorem od_notin2 (hu : X.A.units + 65 < cLine) : OpF X K (compareOp .NotIn) dNotIn2 := fun hK => by
  obtain ⟨r, h1, h2⟩ := od_notin (X := X) (K := K) hu hK
  refine ⟨_, opR_or h1 (op_notinDict (u65 hu)), fun M H v u a b c Q fr ha hb e q => ?_⟩
  by_cases hd : ∃ es, b = .dict es
  · obtain ⟨es, rfl⟩ := hd
    obtain ⟨t, e0, rfl⟩ := notD_some e
    rw [dIn2_d] at e0
    obtain ⟨j, e1, e2⟩ := Option.map_eq_some_iff.mp e0
    cases e2
    obtain ⟨p, o, rfl, g, ho⟩ := dict_get ha hb e1
    exact .inr ⟨p, o, rfl, g, by rw [ho]; exact q _ H (Same.refl _) (.bl _)⟩
  · refine .inl (h2 M H v u a b c Q fr ha hb ?_ q)
    rw [← e]
    cases b <;> first | (cases a <;> rfl) | exact absurd ⟨_, rfl⟩ hd
end
/-! ### {"k": e, ..} -/
structure PFP (X : Cx) (F : Fc) (pos : Pos) (keys : List (Option Expr)) (values : List Expr) (ks : List Str) (fa : FA) : Prop where
  pp : ∀ Z, Lk X F Z → ∃ trs, PPs X pos keys values trs ∧ ∀ σ H Q, tA F Z fa σ H (fun vs H' => Q ((ks.zip vs).map fun p => (V.str p.1, p.2)) H') → tPairs trs σ H Q
theorem tA_mono {F : Fc} {Z : ZF} {fa : FA} {σ : L2.St} {H : Hp} {Q Q' : List V → Hp → Prop} (h : ∀ vs H', Q vs H' → Q' vs H') : tA F Z fa σ H Q → tA F Z fa σ H Q' := fun ⟨M, δ, n, ok, q⟩ => ⟨M, δ, n, ok, T.wp_mono (fun ws n' k vs H' a b c => h _ _ (k vs H' a b c)) (fun _ _ z => z) _ _ q⟩
section
variable {X : Cx} {F : Fc} {pos : Pos} {keys : List (Option Expr)} {values : List Expr} {ks : List Str} {fa : FA} {e : Expr} {f : FE} {x : Str} {j : Nat} {kp : Pos}
theorem pfp_nil : PFP X F pos [] [] [] fNil := ⟨fun Z tk => ⟨[], pps_nil, fun σ H Q ⟨M, δ, n, ok, q⟩ => q [] H Kp.refl ok .nil⟩⟩
theorem pfp_cons (he : PF X F e f) (hr : PFP X F pos keys values ks fa) : PFP X F pos (some (.Constant (.str x) j kp) :: keys) (e :: values) (x :: ks) (fCons f fa) :=
  ⟨fun Z tk => by
    obtain ⟨trs, h1, h2⟩ := hr.pp Z tk
    refine ⟨_, pps_cons pe_str (he.pe Z tk) h1, fun σ H Q ⟨M, δ, n, ok, q⟩ => show tE F Z f σ H _ from goE ok ((T.wp_bind _ _).mp q) fun w n1 v H1 q1 s1 ok1 v1 => h2 σ H1 _ (goA ok1 ((T.wp_bind _ _).mp q1) fun ws n2 vs H2 q2 s2 ok2 v2 => ?_)⟩
    exact q2 (v :: vs) H2 (s1.trans s2) ok2 (.cons (v1.kp s2) v2)⟩
end
def fDisp (ks : List Str) (fa : FA) : FE := fun δ => (fa δ).bind fun ws => (datL ws).bind fun ds => if ks.Nodup ∧ ks.length ≤ 15 then .ret (.d (.dict ((ks.zip ds).map fun p => (.str p.1, p.2)))) else .bad
@[simp] theorem fDisp_def (ks : List Str) (fa : FA) (δ : Sl) : fDisp ks fa δ = (fa δ).bind fun ws => (datL ws).bind fun ds => if ks.Nodup ∧ ks.length ≤ 15 then .ret (.d (.dict ((ks.zip ds).map fun p => (.str p.1, p.2)))) else .bad := rfl
theorem merge_new : ∀ (more kvs : List (Key × V)), (more.map (·.1)).Nodup → (∀ p ∈ more, valV kvs p.1 = none) → mergeK kvs more = kvs ++ more
  | [], kvs, _, _ => (List.append_nil _).symm
  | (k, v) :: more, kvs, nd, h => by
    obtain ⟨n1, n2⟩ := List.nodup_cons.mp nd
    show mergeK (putK kvs k v) more = _
    have e : putK kvs k v = kvs ++ [(k, v)] := by
      unfold putK
      rw [valV_any, h _ (List.mem_cons_self ..)]
      rfl
    rw [e, merge_new more _ n2 fun p hp => ?_, List.append_assoc]
    · rfl
    · have := h p (List.mem_cons_of_mem _ hp)
      unfold valV at this ⊢
      rw [List.find?_append]
      cases z : kvs.find? (fun kv => decide (kv.1 = p.1)) with
      | some q =>
        rw [z] at this
        cases this
      | none =>
        rw [Option.none_or, List.find?_cons]
        have ne : ¬ k = p.1 := fun z => n1 (List.mem_map.mpr ⟨p, hp, z.symm⟩)
        rw [show decide (k = p.1) = false from decide_eq_false ne]
        rfl
theorem zip_keys : ∀ {ks : List Str} {vs : List V}, ks.Nodup → (((ks.zip vs).map fun p => ((Sum.inr p.1 : Key), p.2)).map (·.1)).Nodup
  | [], _, _ => by
    rw [List.zip_nil_left]
    exact .nil
  | k :: ks, [], _ => by
    rw [List.zip_nil_right]
    exact .nil
  | k :: ks, v :: vs, h => by
    obtain ⟨h1, h2⟩ := List.nodup_cons.mp h
    refine List.nodup_cons.mpr ⟨fun z => ?_, zip_keys h2⟩
    obtain ⟨p, hp, e⟩ := List.mem_map.mp z
    obtain ⟨q, hq, rfl⟩ := List.mem_map.mp hp
    cases e
    exact h1 (List.of_mem_zip hq).1
theorem dvk_zip {K : Kx} {G : Hp} : ∀ (ks : List Str) {vs : List V} {ds : List D}, DVs K G vs ds → DVk K G ((ks.zip vs).map fun p => ((Sum.inr p.1 : Key), p.2)) ((ks.zip ds).map fun p => (.str p.1, p.2))
  | [], _, _, _ => by
    rw [List.zip_nil_left, List.zip_nil_left]
    exact .nil
  | k :: ks, _, _, .nil => .nil
  | k :: ks, _, _, .cons h t => .cons (k := .inr k) h (dvk_zip ks t)
section
variable {X : Cx} {F : Fc} {pos : Pos} {keys : List (Option Expr)} {values : List Expr} {ks : List Str} {fa : FA}
theorem pf_disp (h : PFP X F pos keys values ks fa) (hall : keys.all (·.isSome) = true := by rfl) (hl : keys.length = values.length := by rfl) (h0 : keys ≠ [] := by exact List.cons_ne_nil _ _) (h15 : keys.length ≤ 15 := by decide) : PF X F (.Dict keys values pos) (fDisp ks fa) :=
  ⟨fun Z tk => by
    obtain ⟨trs, h1, h2⟩ := h.pp Z tk
    refine pe_to (pe_disp h1 hall hl h0 h15) fun σ H Q ⟨M, δ, n, ok, q⟩ p hp => h2 σ _ _ ?_
    obtain ⟨okD, sD⟩ := ok.add (p := p) (o := .dK []) hp (same1 hp) upd_same
    have hpM := ok.fresh hp
    have hp0 : p ∉ F.M0 := fun z => hpM (ok.sub p z)
    have hpw : ∀ q, F.wl = some q → p ≠ q.1 := fun q e z => hp0 (by rw [z]; exact (ok.wel q e).1)
    refine goA okD ((T.wp_bind _ _).mp q) fun ws n1 vs H1 q1 s1 ok1 v1 => ?_
    obtain ⟨ds, hv, q2⟩ := dvs_dat v1 ((T.wp_bind _ _).mp q1)
    obtain ⟨⟨nd, l15⟩, q3⟩ := wp_if q2
    have e1 : H1 p = some (.dK []) := s1.f p (List.mem_cons_self ..) hpw _ (fun ps z => by cases z) upd_same
    obtain ⟨kvs, hk⟩ : ∃ kvs, kvs = (ks.zip vs).map fun p => ((Sum.inr p.1 : Key), p.2) := ⟨_, rfl⟩
    have em : mergeK [] kvs = kvs := by
      rw [merge_new kvs [] (by rw [hk]; exact zip_keys nd) fun p _ => rfl]
      rfl
    refine ⟨e1, kvs, by rw [hk, List.map_map]; rfl, by rw [hk, List.length_map, List.length_zip]; omega, ?_⟩
    rw [em]
    have ne : ∀ (j : Nat) (y : D), δ[j]? = some (some (S.own y)) → σ[j]? ≠ some (some (V.ref p)) := fun j y ej es => by
      obtain ⟨q, o, g1, g2, _⟩ := ok.own j y ej
      rw [es] at g1
      cases g1
      exact hpM g2
    have okP : Ok F (p :: M) σ (upd H1 p (.dK kvs)) δ n1 := ok1.poke (List.mem_cons_self ..) hp0 e1 (.dic .nil) ne
    have kM : Kp F M H (upd H1 p (.dK kvs)) := ⟨fun b o e => by
      obtain ⟨b1, b2⟩ := hid_some e
      have bp : b ≠ p := fun z => by
        rw [z, hp] at b2
        cases b2
      refine hid_mk b1 ?_
      rw [upd_ne bp]
      exact (hid_some (s1.s b o (hid_mk (fun z => (List.mem_cons.mp z).elim bp b1) (by rw [upd_ne bp]; exact b2)))).2, fun b hb hw o ho e => by
      have bp : b ≠ p := fun z => hpM (by rw [← z]; exact hb)
      rw [upd_ne bp]
      exact s1.f b (List.mem_cons_of_mem _ hb) hw o ho (by rw [upd_ne bp]; exact e)⟩
    refine q3 (.ref p) _ kM (ok.unlc okP kM) (.dic (hid_mk hpM upd_same) ?_)
    rw [hk]
    refine dvk_zip ks (hv.same fun b o e => ?_)
    obtain ⟨b1, b2⟩ := hid_some e
    exact hid_mk (fun z => b1 (List.mem_cons_of_mem _ z)) (by rw [upd_ne fun z => b1 (by rw [z]; exact List.mem_cons_self ..)]; exact b2)⟩
end
end FL

/-! A loop over own lists by another name: for x, y in [(u, e), (v, f)]. -/
namespace FL
open PySem PySem.Spec PyProof.Rows L2 Gd Fx Stp LamX Lm
def Fc.alw (F : Fc) (l : List Addr) : Fc := { F with al := l }
def noAl1 : Option S → Bool
  | some (.v (.al _)) => false
  | some (.own (.tag _ _)) => false
  | _ => true
def noAl (δ : Sl) : Bool := δ.all noAl1
theorem noAl_v {δ : Sl} {i k : Nat} (h : noAl δ = true) : δ[i]? ≠ some (some (S.v (.al k))) := fun e => by
  have := List.all_eq_true.mp h _ (List.mem_of_getElem? e)
  cases this
theorem noAl_o {δ : Sl} {i k : Nat} {ds : List D} (h : noAl δ = true) : δ[i]? ≠ some (some (S.own (.tag k ds))) := fun e => by
  have := List.all_eq_true.mp h _ (List.mem_of_getElem? e)
  cases this
theorem tagOf_some {x : D} {k : Nat} (h : x.tagOf = some k) : ∃ ds, x = .tag k ds := by
  cases x <;> cases h
  exact ⟨_, rfl⟩
section
variable {F : Fc} {M : List Addr} {σ : L2.St} {H : Hp} {δ : Sl} {n : Nat} {l : List Addr}
theorem Ok.alw (h : Ok F M σ H δ n) (e : noAl δ = true) : Ok (F.alw l) M σ H δ n where
  len := h.len
  val := fun i w e1 => by
    obtain ⟨v, h1, h2⟩ := h.val i w e1
    refine ⟨v, h1, ?_⟩
    cases w with
    | al k => exact absurd e1 (noAl_v e)
    | _ => exact h2
  own := fun i x e1 => by
    obtain ⟨p, o, b1, b2, b3, b4⟩ := h.own i x e1
    refine ⟨p, o, b1, b2, b3.imp (fun z => ⟨z.1, z.2.1, fun k z2 => ?_⟩) id, b4⟩
    obtain ⟨ds, rfl⟩ := tagOf_some z2
    exact absurd e1 (noAl_o e)
  dis := h.dis
  nol := h.nol
  sub := h.sub
  new := h.new
  al := h.al
  ext := h.ext
  frm := h.frm
  tab := h.tab
  wel := h.wel
  anc := h.anc
  sw := h.sw
theorem Ok.unalw (h : Ok (F.alw l) M σ H δ n) (e : noAl δ = true) : Ok F M σ H δ n := h.alw (l := F.al) e
theorem Ok.dx_list {i : Nat} {x : D} (h : Ok F M σ H δ n) (e : δ[i]? = some (some (S.own x))) {p : Addr} (es : σ[i]? = some (some (.ref p))) (hx : x.isObj = false) : ∃ o, p ∈ M ∧ p ∉ F.M0 ∧ H p = some o ∧ HV F.K (hid M H) o x ∧ (∀ k, x.tagOf = some k → F.al[k]? = some p) := by
  obtain ⟨p', o, e1, hp, h0, e3, e4, e5⟩ := h.own i x e
  rw [es] at e1
  cases e1
  rcases h0 with h0 | ⟨q, _, _, z⟩
  · exact ⟨o, hp, h0.1, e3, e4, h0.2.2⟩
  · rw [hx] at z
    cases z
/-- the same object, seen in another way -/
theorem Ok.retag {i : Nat} {p : Addr} {x y : D} (h : Ok F M σ H δ n) (e : δ[i]? = some (some (S.own x))) (es : σ[i]? = some (some (.ref p))) (hx : x.isObj = false) (hy : y.isObj = false) (hv : ∀ o, HV F.K (hid M H) o x → HV F.K (hid M H) o y) (ht : ∀ k, y.tagOf = some k → F.al[k]? = some p) : Ok F M σ H (δ.set i (some (S.own y))) n := by
  obtain ⟨o, hp, h0, e3, e4, _⟩ := h.dx_list e es hx
  have key := h.setOwn (i := i) (p := p) (o := o) (x := y) hp h0 (fun j z ej es' => h.dis i j _ _ p e ej es es') e3 (hv o e4) (fun C dx fs z => by
    subst z
    cases e4
    cases hx) hy ht
  have : σ.set i (some (.ref p)) = σ := by
    refine List.ext_getElem? fun j => ?_
    by_cases z : i = j
    · subst z
      rw [es, List.getElem?_set_self (List.getElem?_eq_some_iff.mp es).1]
    · rw [List.getElem?_set_ne z]
  rw [this] at key
  exact key
theorem set_self {α : Type} {l : List α} {i : Nat} {x : α} (e : l[i]? = some x) : l.set i x = l := by
  refine List.ext_getElem? fun j => ?_
  by_cases z : i = j
  · subst z
    rw [e, List.getElem?_set_self (List.getElem?_eq_some_iff.mp e).1]
  · rw [List.getElem?_set_ne z]
/-- another name gets the object -/
theorem Ok.lend {i j k : Nat} {p : Addr} {ds : List D} (h : Ok F M σ H δ n) (e : δ[i]? = some (some (S.own (.tag k ds)))) (es : σ[i]? = some (some (.ref p))) (hij : i ≠ j) (nj : ∀ y, δ[j]? ≠ some (some (S.own y)) ∨ σ[j]? ≠ some (some (.ref p))) :
    Ok F M (σ.set j (some (.ref p))) H ((δ.set i (some (S.v (.al k)))).set j (some (S.own (.tag k ds)))) n := by
  obtain ⟨o, hp, h0, e3, e4, ht⟩ := h.dx_list e es rfl
  have h1 := h.set (i := i) (v := .ref p) (w := .al k) ⟨p, ht k rfl, rfl⟩ (fun x z => by cases z)
  rw [set_self es] at h1
  refine h1.setOwn hp h0 (fun m y em es' => ?_) e3 e4 (fun C dx fs z => by
    subst z
    cases e4) rfl ht
  rcases set_cases em with ⟨rfl, eq, hl⟩ | ⟨ne, em'⟩
  · cases eq
  · exact absurd (h.dis i m _ _ p e em' es es') ne
/-- .. and gives it back -/
theorem Ok.back2 {i j k : Nat} {ds : List D} (h : Ok F M σ H δ n) (e : δ[j]? = some (some (S.own (.tag k ds)))) (e2 : δ[i]? = some (some (S.v (.al k)))) (hij : i ≠ j) :
    Ok F M σ H ((δ.set j none).set i (some (S.own (.tag k ds)))) n := by
  obtain ⟨v, g1, p, g2, rfl⟩ := h.val i _ e2
  obtain ⟨q, o, b1, hq, b3, b4, b5, b6⟩ := h.own j _ e
  have es : σ[j]? = some (some (.ref q)) := b1
  obtain ⟨o', hp, h0, e3, e4, ht⟩ := h.dx_list e es rfl
  have hqp : q = p := by
    have := ht k rfl
    rw [g2] at this
    exact (Option.some.inj this).symm
  subst hqp
  have h1 := h.drop (i := j) (v := some (.ref q))
  rw [set_self es] at h1
  have h2 := h1.setOwn (i := i) (p := q) (o := o') (x := .tag k ds) hp h0 (fun m y em es' => by
    rcases set_cases em with ⟨rfl, eq, hl⟩ | ⟨ne, em'⟩
    · cases eq
    · exact absurd (h.dis j m _ _ q e em' es es') ne) e3 e4 (fun C dx fs z => by
    subst z
    cases e4) rfl ht
  rw [set_self g1] at h2
  exact h2
end
/-! ### the loop -/
def tagAt (δ : Sl) (i k : Nat) : R (List D) := match δ[i]? with
  | some (some (.own (.tag j xs))) => if j = k then .ret xs else .bad
  | _ => .bad
def alAt (δ : Sl) (i k : Nat) : R Unit := match δ[i]? with
  | some (some (.v (.al j))) => if j = k then .ret () else .bad
  | _ => .bad
def noOwn (δ : Sl) (i : Nat) : Bool := match δ[i]? with
  | some (some (.own _)) => false
  | _ => true
def aBack (k i js : Nat) : Out → RS Sl
  | .nx δ => (lft δ (alAt δ i k)).bind fun _ => (lft δ (tagAt δ js k)).bind fun ys => .ret ((δ.set js none).set i (some (S.own (.tag k ys))))
  | _ => .bad
def aTurn (k i js jp : Nat) (d : D) (b : FS) (δ : Sl) : RS Sl := (lft δ (tagAt δ i k)).bind fun xs => if noOwn δ js = true then
  ((b (((δ.set i (some (S.v (.al k)))).set js (some (S.own (.tag k xs)))).set jp (some (S.v (.d d))))).noex : RS Out).bind (aBack k i js) else .bad
def aEnd (i1 i2 : Nat) (δ : Sl) : RS Out := (lft δ (tagAt δ i1 0)).bind fun xs => (lft δ (tagAt δ i2 1)).bind fun ys => if noAl ((δ.set i1 (some (S.own (.list xs)))).set i2 (some (S.own (.list ys)))) = true then .ret (.nx ((δ.set i1 (some (S.own (.list xs)))).set i2 (some (S.own (.list ys))))) else .bad
def aRest (i1 i2 js jp : Nat) (d1 d2 : D) (b : FS) : Nat → Sl → RS Out
  | 0, δ => (aTurn 0 i1 js jp d1 b δ).bind fun δ1 => (aTurn 1 i2 js jp d2 b δ1).bind (aEnd i1 i2)
  | 1, δ => (aTurn 1 i2 js jp d2 b δ).bind (aEnd i1 i2)
  | _, δ => aEnd i1 i2 δ
def sAlias (i1 i2 js jp : Nat) (f1 f2 : FE) (b : FS) : FS := fun δ => (lft δ (listAt δ i1)).bind fun xs => (lft δ (listAt δ i2)).bind fun ys => if (i1 ≠ i2 ∧ i1 ≠ js ∧ i2 ≠ js) ∧ noAl δ = true then
  (lft δ (f1 δ)).bind fun w1 => (lft δ w1.dat).bind fun d1 => (lft δ (f2 δ)).bind fun w2 => (lft δ w2.dat).bind fun d2 => aRest i1 i2 js jp d1 d2 b 0 ((δ.set i1 (some (S.own (.tag 0 xs)))).set i2 (some (S.own (.tag 1 ys)))) else .bad
theorem tagAt_wp {δ : Sl} {i k n : Nat} {Q : List D → Nat → Prop} {Z' : Xn × Sl → Nat → Prop} (q : (lft δ (tagAt δ i k)).wp n Q Z') : ∃ xs, δ[i]? = some (some (.own (.tag k xs))) ∧ Q xs n := by
  have q' := (T.wp_mapEx _ _).mp q
  unfold tagAt at q'
  split at q'
  · rename_i j xs e
    obtain ⟨rfl, q''⟩ := wp_if q'
    exact ⟨xs, e, q''⟩
  · exact q'.elim
theorem alAt_wp {δ : Sl} {i k n : Nat} {Q : Unit → Nat → Prop} {Z' : Xn × Sl → Nat → Prop} (q : (lft δ (alAt δ i k)).wp n Q Z') : δ[i]? = some (some (.v (.al k))) ∧ Q () n := by
  have q' := (T.wp_mapEx _ _).mp q
  unfold alAt at q'
  split at q'
  · rename_i j e
    obtain ⟨rfl, q''⟩ := wp_if q'
    exact ⟨e, q''⟩
  · exact q'.elim
section
variable {X : Cx} {F : Fc} {i1 i2 js jp : Nat} {e1 e2 : Expr} {f1 f2 : FE} {b : FS} {body : List Stmt} {u1 u2 : Str} {tes : List Expr} {kt k1 k2 : Nat} {tp q1 q2 r1 r2 lp pos : Pos}
/-- one turn: the object goes to the other name, the body runs, the object comes back -/
theorem turn_ok {G : Fc} {K : PySem.W.Frag} {k i : Nat} {d : D} {M2 : List Addr} {σ : L2.St} {H2 : Hp} {δ : Sl} {n : Nat} {t : Addr} {v : V} {p : Addr} {E : L2.St → Hp → Prop} {R : Sl → RS Out} {A : Out → Nat → Prop} {Z' : Xn × Sl → Nat → Prop} (hK : K = G.K.K) (ok : Ok G M2 σ H2 δ n) (hp : G.al[k]? = some p) (hne : i ≠ js)
    (ht : SqT G.K.K H2 t [.ref p, v]) (hv : DV G.K (hid M2 H2) v d) (q : ((aTurn k i js jp d b δ).bind R).wp n A Z')
    (hE : ∀ σ', (∃ δ', Ok G M2 σ' H2 δ' n ∧ (b δ').wp n (fun o n' => ∃ δ2, o = .nx δ2 ∧ ∀ M3 σ3 H3, Ok G M3 σ3 H3 δ2 n' → ∃ δ3, Ok G M3 σ3 H3 δ3 n' ∧ (R δ3).wp n' A Z') (fun _ _ => False)) → E σ' H2) : gOf K (.many [js, jp]) (.ref t) σ H2 E := by
  subst hK
  obtain ⟨xs, ex, q0⟩ := tagAt_wp ((T.wp_bind _ _).mp ((T.wp_bind _ _).mp q))
  obtain ⟨hno, q1⟩ := wp_if q0
  have q2 := (T.wp_noex _ _).mp ((T.wp_bind _ _).mp q1)
  obtain ⟨p', o, b1, b2, b3, b4⟩ := ok.own i _ ex
  have ep : p' = p := by
    obtain ⟨_, _, _, _, _, ht⟩ := ok.dx_list ex b1 rfl
    have := ht k rfl
    rw [hp] at this
    exact (Option.some.inj this).symm
  subst ep
  refine .inl ⟨t, [.ref p', v], rfl, ht, rfl, _, _, rfl, _, _, rfl, rfl, ?_⟩
  have o1 := ok.lend (j := js) ex b1 hne (fun y => .inl fun z => by
    unfold noOwn at hno
    rw [z] at hno
    cases hno)
  have o2 := o1.set (i := jp) (v := v) (w := .d d) hv fun _ => nol_d
  refine hE _ ⟨_, o2, T.wp_mono (fun o n' q3 => ?_) (fun _ _ z => z) _ _ q2⟩
  cases o with
  | nx δ2 =>
    refine ⟨δ2, rfl, fun M3 σ3 H3 ok3 => ?_⟩
    obtain ⟨ea, q4⟩ := alAt_wp ((T.wp_bind _ _).mp q3)
    obtain ⟨ys, eb, q5⟩ := tagAt_wp ((T.wp_bind _ _).mp q4)
    exact ⟨_, ok3.back2 eb ea hne, q5⟩
  | rt d => exact q3.elim
  | bk δ => exact q3.elim
  | ct δ => exact q3.elim
theorem pfs_alias (hp : PassesOwn (model X.prog X.w) X.A X.env X.xe) (hc : X.calm = true) (hv1 : PE X (.Name u1 q1) (tVar i1)) (hv2 : PE X (.Name u2 q2) (tVar i2)) (h1 : PF X F e1 f1) (h2 : PF X F e2 f2) (ht : PFG X (.Tuple tes kt tp) (.many [js, jp]))
    (hb : ∀ A l, PFB X ((F.alw l).more A) body b) (hK : X.K = F.K.K := by rfl)
    (s1 : starEach [.Name u1 q1, e1] X.env = (false, eval (.Name u1 q1) X.env) :: starEach [e1] X.env := by rfl) (s2 : starEach [e1] X.env = (false, eval e1 X.env) :: starEach [] X.env := by rfl)
    (s3 : starEach [.Name u2 q2, e2] X.env = (false, eval (.Name u2 q2) X.env) :: starEach [e2] X.env := by rfl) (s4 : starEach [e2] X.env = (false, eval e2 X.env) :: starEach [] X.env := by rfl)
    (s5 : starEach [.Tuple [.Name u1 q1, e1] k1 r1, .Tuple [.Name u2 q2, e2] k2 r2] X.env = (false, eval (.Tuple [.Name u1 q1, e1] k1 r1) X.env) :: starEach [.Tuple [.Name u2 q2, e2] k2 r2] X.env := by rfl) (s6 : starEach [.Tuple [.Name u2 q2, e2] k2 r2] X.env = (false, eval (.Tuple [.Name u2 q2, e2] k2 r2) X.env) :: starEach [] X.env := by rfl)
    (hfo : ∀ x, foldedSetIterable (.List [.Tuple [.Name u1 q1, e1] k1 r1, .Tuple [.Name u2 q2, e2] k2 r2] lp) X.env x = pure x := by intro _; rfl) :
    PFS X F (.For (.Tuple tes kt tp) (.List [.Tuple [.Name u1 q1, e1] k1 r1, .Tuple [.Name u2 q2, e2] k2 r2] lp) body [] pos) (sAlias i1 i2 js jp f1 f2 b) := by
  refine ⟨fun Z tk => ⟨fun pins s σ H Dn I h => ?_⟩⟩
  refine (ps_for (g := gOf X.K (.many [js, jp])) (tb := fun D σ H => ∃ A l, tS ((F.alw l).more A) (fun _ _ _ => False) b D σ H) hp hc
    (pi_any (pe_lstN (pa_cons (pe_tupN (pa_cons hv1 (pa_cons (h1.pe Z tk) pa_nil s2) s1)) (pa_cons (pe_tupN (pa_cons hv2 (pa_cons (h2.pe Z tk) pa_nil s4) s3)) pa_nil s6) s5))) ht.pg
    ⟨fun pins s σ H D I ⟨A, l, h⟩ => ((hb A l).ps _ lk0).run pins s σ H D I h⟩ hfo).run pins s σ H Dn I ?_
  obtain ⟨M, δ, n, ok, q⟩ := h
  obtain ⟨xs, ex, qa⟩ := listAt_wp ((T.wp_bind _ _).mp q)
  obtain ⟨ys, ey, qb⟩ := listAt_wp ((T.wp_bind _ _).mp qa)
  obtain ⟨⟨⟨n12, n1j, n2j⟩, na⟩, q0⟩ := wp_if qb
  obtain ⟨p1, vs1, b1, _, _, _, _⟩ := own_list ok ex
  obtain ⟨p2, vs2, b2, _, _, _, _⟩ := own_list ok ey
  -- the list of pairs is made
  refine ⟨_, b1, lftE ok ((T.wp_bind _ _).mp q0) fun w1 n1 v1 H1 qc s1 ok1 vo1 => ?_⟩
  obtain ⟨d1, rfl, hv1, qd⟩ := lft_dat vo1 ((T.wp_bind _ _).mp qc)
  refine ⟨by show 2 ≤ 1000000; decide, fun t1 H1' np1 sa ea => ⟨_, b2, lftE (ok1.same sa) ((T.wp_bind _ _).mp qd) fun w2 n2 v2 H2 qe s2 ok2 vo2 => ?_⟩⟩
  obtain ⟨d2, rfl, hv2, qf⟩ := lft_dat vo2 ((T.wp_bind _ _).mp qe)
  refine ⟨by show 2 ≤ 1000000; decide, fun t2 H2' np2 sb eb => ⟨by show 2 ≤ 1000000; decide, fun L H3 npL sc eL => .inl ⟨L, rfl, ⟨_, SqL.of eL⟩, ?_⟩⟩⟩
  have ok3 : Ok F M σ H3 δ n2 := (ok2.same sb).same sc
  have ht1 : hid M H3 t1 = some (.tup [.ref p1, v1]) := hid_mk (ok1.fresh np1) (sc _ _ (sb _ _ (hid_some (s2.s _ _ (hid_mk (ok1.fresh np1) ea))).2))
  have ht2 : hid M H3 t2 = some (.tup [.ref p2, v2]) := hid_mk (ok2.fresh np2) (sc _ _ eb)
  have hL : hid M H3 L = some (.lst [.ref t1, .ref t2]) := hid_mk ((ok2.same sb).fresh npL) eL
  have hd1 : DV F.K (hid M H3) v1 d1 := (((hv1.same (hid_same sa)).same s2.s).same (hid_same sb)).same (hid_same sc)
  have hd2 : DV F.K (hid M H3) v2 d2 := (hv2.same (hid_same sb)).same (hid_same sc)
  -- both are known by their addresses
  have okA := ok3.alw (l := [p1, p2]) na
  have okB := okA.retag (i := i1) (y := .tag 0 xs) ex b1 rfl rfl (fun o z => by cases z with | lst z => exact .tag z) (fun k z => by cases z; rfl)
  have ey' : (δ.set i1 (some (S.own (.tag 0 xs))))[i2]? = some (some (S.own (.list ys))) := by rw [List.getElem?_set_ne n12]; exact ey
  have okC := okB.retag (i := i2) (y := .tag 1 ys) ey' b2 rfl rfl (fun o z => by cases z with | lst z => exact .tag z) (fun k z => by cases z; rfl)
  have okG := okC.more
  refine ⟨fun j m σ2 H4 => m = 2 - j ∧ j ≤ 2 ∧ ∃ M2 δ2 n3, Ok ((F.alw [p1, p2]).more (M, H3)) M2 σ2 H4 δ2 n3 ∧ (aRest i1 i2 js jp d1 d2 b j δ2).wp n3 (edOf F Dn) (fun x n' => Z x.1 n' x.2), ⟨_, rfl, Nat.zero_le _, M, _, n2, okG, qf⟩, ?_⟩
  rintro j m σ2 H4 ⟨rfl, hj, M2, δ2, n3, okj, qj⟩
  have se := okj.seen
  have wl : SqL X.K H4 L [.ref t1, .ref t2] := SqL.of (hid_to _ _ (se _ _ hL))
  have st1 : SqT F.K.K H4 t1 [.ref p1, v1] := SqT.of (hid_to _ _ (se _ _ ht1))
  have st2 : SqT F.K.K H4 t2 [.ref p2, v2] := SqT.of (hid_to _ _ (se _ _ ht2))
  have body : ∀ {k i : Nat} {d : D} {t p : Addr} {v : V} {R : Sl → RS Out} (j' : Nat), ((F.alw [p1, p2]).more (M, H3)).al[k]? = some p → i ≠ js → SqT F.K.K H4 t [.ref p, v] → DV F.K (hid M2 H4) v d → ((aTurn k i js jp d b δ2).bind R).wp n3 (edOf F Dn) (fun x n' => Z x.1 n' x.2) → j < 2 → (∀ δ3, R δ3 = aRest i1 i2 js jp d1 d2 b (j + 1) δ3) →
      gOf X.K (.many [js, jp]) (.ref t) σ2 H4 (fun σ3 H5 => ∃ A l, tS ((F.alw l).more A) (fun _ _ _ => False) b { Dn with nx := fun σ' H' => ∃ M3 δ3 n4, Ok ((F.alw [p1, p2]).more (M, H3)) M3 σ' H' δ3 n4 ∧ (aRest i1 i2 js jp d1 d2 b (j + 1) δ3).wp n4 (edOf F Dn) (fun x n' => Z x.1 n' x.2), ct := fun σ' H' => ∃ M3 δ3 n4, Ok ((F.alw [p1, p2]).more (M, H3)) M3 σ' H' δ3 n4 ∧ (aRest i1 i2 js jp d1 d2 b (j + 1) δ3).wp n4 (edOf F Dn) (fun x n' => Z x.1 n' x.2), bk := Dn.nx } σ3 H5) := by
    intro k i d t p v R j' hk hij hst hdv qq hj2 hR
    refine turn_ok (G := (F.alw [p1, p2]).more (M, H3)) hK okj hk hij hst hdv qq fun σ' ⟨δ', ok', q'⟩ => ⟨(M, H3), [p1, p2], M2, δ', n3, ok', T.wp_mono (fun o n' z => ?_) (fun _ _ z => z) _ _ q'⟩
    obtain ⟨δ4, rfl, z⟩ := z
    intro M3 σ3 H5 ok5
    obtain ⟨δ5, ok6, q6⟩ := z M3 σ3 H5 ok5
    rw [hR] at q6
    exact ⟨M3, δ5, n', ok6, q6⟩
  match j, hj, qj with
  | 0, _, qj =>
    refine .inr ⟨walk_list.goes 0 H4 (Nat.lt_of_sub_eq_succ rfl) wl, _, fun σ' H' z => ⟨1, by decide, rfl, by decide, z⟩, fun y H' yl => ?_⟩
    obtain ⟨rfl, e⟩ := (walk_list (xs := [.ref t1, .ref t2])).yields 0 H4 y H' (Nat.lt_of_sub_eq_succ rfl) wl yl
    cases e
    exact body 0 rfl n1j st1 (hd1.same se) qj (by decide) fun _ => rfl
  | 1, _, qj =>
    refine .inr ⟨walk_list.goes 1 H4 (Nat.lt_of_sub_eq_succ rfl) wl, _, fun σ' H' z => ⟨0, by decide, rfl, by decide, z⟩, fun y H' yl => ?_⟩
    obtain ⟨rfl, e⟩ := (walk_list (xs := [.ref t1, .ref t2])).yields 1 H4 y H' (Nat.lt_of_sub_eq_succ rfl) wl yl
    cases e
    exact body 0 rfl n2j st2 (hd2.same se) qj (by decide) fun _ => rfl
  | 2, _, qj =>
    refine .inl ⟨walk_list.stops H4 wl, ?_⟩
    have qj' : (aEnd i1 i2 δ2).wp n3 (edOf F Dn) (fun x n' => Z x.1 n' x.2) := qj
    obtain ⟨xs', ea, q5⟩ := tagAt_wp ((T.wp_bind _ _).mp qj')
    obtain ⟨ys', eb, q6⟩ := tagAt_wp ((T.wp_bind _ _).mp q5)
    obtain ⟨na', q7⟩ := wp_if q6
    obtain ⟨p1', _, c1, _⟩ := okj.own i1 _ ea
    obtain ⟨p2', _, c2, _⟩ := okj.own i2 _ eb
    have r1 := okj.unmore.retag (i := i1) (y := .list xs') ea c1 rfl rfl (fun o z => by cases z with | tag z => exact .lst z) (fun k z => by cases z)
    have eb' : (δ2.set i1 (some (S.own (.list xs'))))[i2]? = some (some (S.own (.tag 1 ys'))) := by rw [List.getElem?_set_ne n12]; exact eb
    have r2 := r1.retag (i := i2) (y := .list ys') eb' c2 rfl rfl (fun o z => by cases z with | tag z => exact .lst z) (fun k z => by cases z)
    exact q7 M2 σ2 H4 (r2.unalw na')
end
end FL

/-! Texts joined; an own list lent to a call; a tagged list made longer. -/
namespace FL
open PySem PySem.Spec PyProof.Rows L2 Gd Fx Stp LamX Lm
/-! ### join -/
def joinS (a : Str) (ys : List Str) : Option D := if (ys.map (·.length)).sum + ys.length * a.length ≤ 1000000 then some (.str (Str.join a ys)) else none
def strO : D → Option Str
  | .str a => some a
  | _ => none
def gJoin (a : Str) : D → Option D
  | .list ds => (txts ds).bind (joinS a)
  | .tuple ds => (txts ds).bind (joinS a)
  | _ => none
def fJoin (f g : FE) : FE := fun δ => (f δ).bind fun w => w.dat.bind fun x => (T.of (strO x)).bind fun a => (g δ).bind fun u => u.rd.bind fun y => (T.of (gJoin a y)).bind fun d => .ret (.d d)
@[simp] theorem strO_s (a : Str) : strO (.str a) = some a := rfl
@[simp] theorem gJoin_l (a : Str) (ds : List D) : gJoin a (.list ds) = (txts ds).bind (joinS a) := rfl
@[simp] theorem gJoin_t (a : Str) (ds : List D) : gJoin a (.tuple ds) = (txts ds).bind (joinS a) := rfl
@[simp] theorem fJoin_def (f g : FE) (δ : Sl) : fJoin f g δ = (f δ).bind fun w => w.dat.bind fun x => (T.of (strO x)).bind fun a => (g δ).bind fun u => u.rd.bind fun y => (T.of (gJoin a y)).bind fun d => .ret (.d d) := rfl
section
variable {X : Cx} {F : Fc} {o e : Expr} {f g : FE} {apos pos : Pos}
theorem pf_join (h1 : PF X F o f) (h2 : PF X F e g) (hK : X.K = F.K.K := by rfl) (hs : starEach [e] X.env = [(false, eval e X.env)] := by rfl) (hbase : attributeBase o "join" X.env (eval o X.env) = eval o X.env := by rfl) (hline : (apos.endLine == pos.line) = true := by rfl) : PF X F (.Call (.Attribute o "join" apos) [e] [] pos) (fJoin f g) :=
  ⟨fun Z tk => pe_to (pe_join (h1.pe Z tk) (h2.pe Z tk) hs hbase hline) fun σ H Q ⟨M, δ, n, ok, q⟩ => goE ok ((T.wp_bind _ _).mp q) fun w n1 v H1 q1 s1 ok1 v1 => by
    obtain ⟨x, rfl, hx, q2⟩ := dv_dat v1 ((T.wp_bind _ _).mp q1)
    obtain ⟨a, ea, q2⟩ := T.wp_of.mp ((T.wp_bind _ _).mp q2)
    match x, hx, ea with
    | .str a, .str _, rfl =>
    refine ⟨⟨a, rfl⟩, goE ok1 ((T.wp_bind _ _).mp q2) fun u n2 y H2 q3 s2 ok2 v2 => ?_⟩
    obtain ⟨y, hy, q4⟩ := rv_rd v2 ((T.wp_bind _ _).mp q3)
    obtain ⟨d, ed, q5⟩ := T.wp_of.mp ((T.wp_bind _ _).mp q4)
    match y, hy, ed with
    | .list ds, hy, ed =>
      obtain ⟨ys, e1, e2⟩ := Option.bind_eq_some_iff.mp (show (txts ds).bind (joinS a) = some d from ed)
      obtain ⟨l, e3⟩ := iteSome e2
      obtain ⟨p, vs, rfl, h1, h2⟩ := hy.list
      rw [txts_ok h2 e1] at h1
      refine ⟨a, p, ys, rfl, rfl, .inl (SqL.of h1), Nat.le_trans l (by decide), q5 _ H2 (s1.trans s2) ok2 ?_⟩
      rw [← e3, TL.join_eq]
      exact .str _
    | .tuple ds, hy, ed =>
      obtain ⟨ys, e1, e2⟩ := Option.bind_eq_some_iff.mp (show (txts ds).bind (joinS a) = some d from ed)
      obtain ⟨l, e3⟩ := iteSome e2
      obtain ⟨p, vs, rfl, h1, h2, _⟩ := hy.tuple
      rw [txts_ok h2 e1] at h1
      refine ⟨a, p, ys, rfl, rfl, .inr (by rw [hK]; exact h1), Nat.le_trans l (by decide), q5 _ H2 (s1.trans s2) ok2 ?_⟩
      rw [← e3, TL.join_eq]
      exact .str _⟩
end
/-! ### x.extend where x is known by another name -/
def tagL (δ : Sl) (i : Nat) : R (Nat × List D) := match δ[i]? with
  | some (some (.own (.tag k xs))) => .ret (k, xs)
  | _ => .bad
theorem tagL_wp {δ : Sl} {i n : Nat} {Q : Nat × List D → Nat → Prop} {Z' : Xn × Sl → Nat → Prop} (q : (lft δ (tagL δ i)).wp n Q Z') : ∃ k xs, δ[i]? = some (some (.own (.tag k xs))) ∧ Q (k, xs) n := by
  have q' := (T.wp_mapEx _ _).mp q
  unfold tagL at q'
  split at q'
  · rename_i k xs e
    exact ⟨k, xs, e, q'⟩
  · exact q'.elim
def sExtG (i : Nat) (f : FE) : FS := fun δ => (lft δ (tagL δ i)).bind fun k => (lft δ (f δ)).bind fun w => (lft δ w.dat).bind fun d => (lft δ (T.of (listOnly d))).bind fun ys => if k.2.length + ys.length ≤ 1000000 then .ret (.nx (δ.set i (some (S.own (.tag k.1 (k.2 ++ ys)))))) else .bad
section
variable {X : Cx} {F : Fc} {e : Expr} {f : FE} {i : Nat} {x : Str} {pos : Pos}
theorem pfs_extendG {np apos cpos : Pos} (hv : PE X (.Name x np) (tVar i)) (ha : PF X F e f) (hK : X.K = F.K.K := by rfl)
    (hbase : attributeBase (.Name x np) "extend" X.env (eval (.Name x np) X.env) = eval (.Name x np) X.env := by rfl)
    (hfew : ((backTo cpos (starEach [e] X.env)).all (fun x => !x.1) && (backToKw cpos (keywordEach [] X.env)).all (fun x => x.1.isSome) && decide (([e] : List Expr).length + ([] : List Keyword).length + (if ([] : List Keyword).isEmpty then 0 else 1) < 30)) = true := by rfl)
    (hline : (apos.endLine == cpos.line) = true := by rfl) (hs : starEach [e] X.env = (false, eval e X.env) :: starEach [] X.env := by rfl) (hplain : (backTo cpos (starEach [] X.env)).any (·.1) = false := by rfl)
    (hsw : swapsWith (.Call (.Attribute (.Name x np) "extend" apos) [e] [] cpos) none pos.line X.env = pure false := by rfl) :
    PFS X F (.Expr (.Call (.Attribute (.Name x np) "extend" apos) [e] [] cpos) pos) (sExtG i f) :=
  ⟨fun Z tk => ps_to (ps_expr (pe_bm PySem.F.plainAttrs_list PySem.F.slot_list_extend PySem.F.type_list_extend mt_extend hv (pa_cons (ha.pe Z tk) pa_nil hs) hbase hfew hline hs hplain) hsw) fun D σ H ⟨M, δ, n, ok, q⟩ => by
    obtain ⟨k, xs, e0, q1⟩ := tagL_wp ((T.wp_bind _ _).mp q)
    obtain ⟨p, o, b1, _⟩ := ok.own i _ e0
    obtain ⟨_, b2, b0, b4, b5, _⟩ := ok.dx_list e0 b1 rfl
    have b3 : ∀ q, F.wl = some q → p ≠ q.1 := fun q eq z => b0 (by rw [z]; exact (ok.wel q eq).1)
    cases b5 with
    | tag b5 =>
    refine ⟨_, b1, Or.inl ⟨rfl, _, SqL.of b4⟩, lftE ok ((T.wp_bind _ _).mp q1) fun w n1 v H1 q2 s1 ok1 v1 => ?_⟩
    obtain ⟨d, rfl, hv, q3⟩ := lft_dat v1 ((T.wp_bind _ _).mp q2)
    obtain ⟨ys, ey, q4⟩ := T.wp_of.mp ((T.wp_mapEx _ _).mp ((T.wp_bind _ _).mp q3))
    obtain ⟨hl, q5⟩ := wp_if q4
    have c4 := s1.f p b2 b3 _ (fun _ z => by cases z) b4
    match d, hv, ey with
    | .list ds, .lst (a := a) (vs := us) h1 h2, ey =>
      cases ey
      exact ⟨p, a, _, us, rfl, rfl, c4, hid_to _ _ h1, by rw [b5.length, h2.length]; exact big hl, q5 M σ _ (ok1.write e0 b1 c4 (.tag ((b5.same s1.s).append h2)) (fun _ _ _ z => by cases z) rfl)⟩⟩
end
/-! ### an own list lent to what is called -/
mutual
def D.nol : D → D
  | .tuple ds => .tuple (D.nolL ds)
  | .obj c fs => .obj c (D.nolF fs)
  | .none => .none
  | .bool b => .bool b
  | .int i => .int i
  | .str x => .str x
  | .list _ => .any
  | .dict _ => .any
  | .dicT _ => .any
  | .any => .any
  | .tag _ _ => .any
def D.nolL : List D → List D
  | [] => []
  | d :: ds => d.nol :: D.nolL ds
def D.nolF : List (Str × D) → List (Str × D)
  | [] => []
  | (f, d) :: ds => (f, d.nol) :: D.nolF ds
end
section
variable {K : Kx} {G G' : Hp}
/-- all but lists stay -/
def SameB (G G' : Hp) : Prop := ∀ b o, G b = some o → (∀ us, o ≠ HO.lst us) → G' b = some o
theorem seqB (s : SameB G G') {a : Addr} {vs : List V} (h : SqT K.K G a vs) : SqT K.K G' a vs := by
  rcases h with (h | ⟨o, h⟩) | h
  · exact .inl (.inl (s _ _ h fun us z => by cases z))
  · exact .inl (.inr ⟨o, s _ _ h fun us z => by cases z⟩)
  · exact .inr h
mutual
theorem DV.nol (s : SameB G G') : ∀ {v : V} {d : D}, DV K G v d → DV K G' v d.nol
  | _, _, .non => .non
  | _, _, .bl b => .bl b
  | _, _, .int i => .int i
  | _, _, .str x => .str x
  | _, _, .lst _ _ => .any _
  | _, _, .tup h1 h2 => .tup (seqB s h1) (DVs.nol s h2)
  | _, _, .dic _ _ => .any _
  | _, _, .dit _ _ => .any _
  | _, _, .obj h1 h2 => .obj (s _ _ h1 fun us z => by cases z) (DVf.nol s h2)
  | _, _, .any v => .any v
  | _, _, .tag _ _ => .any _
theorem DVs.nol (s : SameB G G') : ∀ {vs : List V} {ds : List D}, DVs K G vs ds → DVs K G' vs (D.nolL ds)
  | _, _, .nil => .nil
  | _, _, .cons h t => .cons (DV.nol s h) (DVs.nol s t)
theorem DVf.nol (s : SameB G G') : ∀ {vs : List (Str × V)} {ds : List (Str × D)}, DVf K G vs ds → DVf K G' vs (D.nolF ds)
  | _, _, .nil => .nil
  | _, _, .cons h t => .cons (DV.nol s h) (DVf.nol s t)
end
end
def sLend (i j : Nat) (f : FE) : FS := fun δ => (lft δ (listAt δ j)).bind fun xs => (lft (δ.set j (some (S.v (.d (.list xs))))) (f (δ.set j (some (S.v (.d (.list xs))))))).bind fun w => (lft δ w.dat).bind fun d => .ret (.nx (δ.set i (some (S.v (.d d.nol)))))
section
variable {X : Cx} {F : Fc} {e : Expr} {fe : FE} {i j : Nat} {x : Str}
theorem pfs_lend {pos' pos : Pos} (hN : X.N.Nodup) (hi : X.N[i]? = some x) (hx : Loc X.env.scope x) (he : PF X F e fe) (hs : swapsWith e (some (.Name x pos')) pos.line X.env = pure false := by rfl)
    (hf : X.fn x = true ∨ X.env.scope.names.lookup x = some .local := by first | exact .inl rfl | exact .inr rfl | assumption) : PFS X F (.Assign [.Name x pos'] e pos) (sLend i j fe) :=
  ⟨fun Z tk => ps_to (ps_set hN hi hx (he.pe Z tk) hs hf) fun D σ H ⟨M, δ, n, ok, q⟩ => by
    obtain ⟨xs, e0, q1⟩ := listAt_wp ((T.wp_bind _ _).mp q)
    obtain ⟨p, us, b1, b2, b3, b4, b5⟩ := own_list ok e0
    have okL := ok.frz e0 b1 rfl
    refine lftE okL ((T.wp_bind _ _).mp q1) fun w n1 v H1 q2 s1 ok1 v1 => ?_
    obtain ⟨d, rfl, hv, q3⟩ := lft_dat v1 ((T.wp_bind _ _).mp q2)
    have m1 : ∀ q, q ∈ M.filter (· != p) → q ∈ M ∧ q ≠ p := fun q hq => by simpa using hq
    have m2 : ∀ q, q ∈ M → q ≠ p → q ∈ M.filter (· != p) := fun q hq hn => by simpa using ⟨hq, hn⟩
    have seen : ∀ b o, b ∉ M.filter (· != p) → H b = some o → H1 b = some o := fun b o hb e => (hid_some (s1.s b o (hid_mk hb e))).2
    have pe1 : H1 p = some (.lst us) := seen p _ (fun z => (m1 p z).2 rfl) b4
    have k : Kp F M H H1 := ⟨fun b o e => by
      obtain ⟨h1, h2⟩ := hid_some e
      exact hid_mk h1 (seen b o (fun z => h1 (m1 b z).1) h2), fun b hb hw o ho e => by
      by_cases z : b = p
      · subst z
        exact seen b o (fun z => (m1 b z).2 rfl) e
      · exact s1.f b (m2 b hb z) hw o ho e⟩
    have okB : Ok F M σ H1 δ n1 := ok.back k ok1.tab.1 (fun b hb => by
      by_cases z : b = p
      · exact ⟨_, by rw [z]; exact pe1⟩
      · exact ok1.al b (m2 b hb z)) fun q eq => by
      obtain ⟨h1, h2, h3, t, r, h4, h5⟩ := ok1.wel q eq
      obtain ⟨_, _, g3, _⟩ := ok.wel q eq
      exact ⟨h2, k.s _ _ g3, t, r, h4, h5⟩
    have sb : SameB (hid (M.filter (· != p)) H1) (hid M H1) := fun b o e hl => by
      obtain ⟨h1, h2⟩ := hid_some e
      refine hid_mk (fun z => ?_) h2
      by_cases zp : b = p
      · rw [zp, pe1] at h2
        exact hl us (Option.some.inj h2).symm
      · exact h1 (m2 b z zp)
    exact q3 M _ H1 (okB.set (w := .d d.nol) (hv.nol sb) fun _ => nol_d)⟩
end
end FL

/-! text * int; x += e; own lists out of texts; {} -/
namespace FL
open PySem PySem.Spec PyProof.Rows L2 Gd Fx Stp LamX Lm
def repS (k : Nat) (x : Str) : Str := ⟨(List.replicate k x.cps.toList).flatten.toArray⟩
theorem fold_rep (a : Array Nat) : ∀ (l : List (Array Nat)) (z : Array Nat), l.foldl (· ++ ·) z = z ++ (l.map (·.toList)).flatten.toArray
  | [], z => by simp
  | b :: l, z => by
    rw [List.foldl_cons, fold_rep a l, List.map_cons, List.flatten_cons]
    apply Array.ext'
    simp
theorem repS_fold (k : Nat) (x : Str) : (⟨(List.replicate k x.cps).foldl (· ++ ·) #[]⟩ : Str) = repS k x := by
  unfold repS
  rw [fold_rep x.cps, List.map_replicate]
  congr 1
  simp
theorem repS_len (k : Nat) (x : Str) : (repS k x).length = k * x.length := by
  show (List.replicate k x.cps.toList).flatten.toArray.size = k * x.cps.size
  rw [List.size_toArray, List.length_flatten, List.map_replicate, List.sum_replicate_nat, Array.length_toList]
section
variable {X : Cx}
theorem op_mulS : OpR X (binaryOp .Mult) (fun x y H Q => ∃ (a : Str) (k : Int), x = .str a ∧ y = .int k ∧ 0 ≤ k ∧ k ≤ 1000 ∧ a.length ≤ 1000 ∧ Q (.str (repS k.toNat a)) H) := by
  intro pins s σ H x y v u Q I rx ry h
  obtain ⟨a, k, rfl, rfl, h0, h1, h2, q⟩ := h
  obtain ⟨t, rfl⟩ := rx
  obtain ⟨t', rfl⟩ := ry
  have hm : k.toNat * a.length ≤ 1000 * 1000 := Nat.mul_le_mul (by omega) h2
  refine PySem.P.mul_str ?_ (fun hk _ => ?_) (fun _ _ => ?_) ?_
  · rw [decide_eq_false (by omega), decide_eq_false (by omega)]
    rfl
  · have hk1 : 1 ≤ k := by omega
    have : (1000 : Int) ≤ (2 ^ 63 - 1) / k := by
      rw [Int.le_ediv_iff_mul_le (by omega)]
      have : 1000 * k ≤ 1000 * 1000 := by omega
      omega
    omega
  · show decide (_ > _) = false
    rw [Nat.mul_comm]
    exact decide_eq_false (by have : sizeLine = 16777216 := rfl; omega)
  · by_cases c1 : k < 1
    · rw [if_pos c1]
      have : k = 0 := by omega
      subst this
      have e0 : repS (0 : Int).toNat a = Str.empty := str_ext (by
        show (List.replicate 0 a.cps.toList).flatten.toArray.toList = #[].toList
        simp)
      rw [e0] at q
      exact ⟨by decide, .str Str.empty, H, I.tok _, ⟨_, rfl⟩, q⟩
    · rw [if_neg c1]
      by_cases c2 : (k == 1 || a.length == 0) = true
      · rw [if_pos c2]
        have e : repS k.toNat a = a := by
          apply str_ext
          show (List.replicate k.toNat a.cps.toList).flatten.toArray.toList = a.cps.toList
          rw [Bool.or_eq_true, beq_iff_eq, beq_iff_eq] at c2
          rcases c2 with rfl | c2
          · simp
          · have : a.cps.toList = [] := List.eq_nil_of_length_eq_zero (by rw [Array.length_toList]; exact c2)
            rw [this]
            simp
        rw [e] at q
        exact ⟨.str a, H, I, ⟨t, rfl⟩, q⟩
      · rw [if_neg c2, repS_fold]
        exact ⟨by rw [repS_len]; exact Nat.le_trans hm (by decide), .str (repS k.toNat a), H, I.tok _, ⟨_, rfl⟩, q⟩
end
def dMul2 : D → D → Option D
  | .str x, .int k => if 0 ≤ k ∧ k ≤ 1000 ∧ x.length ≤ 1000 then some (.str (repS k.toNat x)) else none
  | x, k => dMul x k
@[simp] theorem dMul2_s (x : Str) (k : Int) : dMul2 (.str x) (.int k) = if 0 ≤ k ∧ k ≤ 1000 ∧ x.length ≤ 1000 then some (.str (repS k.toNat x)) else none := rfl
@[simp] theorem dMul2_i (i j : Int) : dMul2 (.int i) (.int j) = dMul (.int i) (.int j) := rfl
@[simp] theorem dMul2_l (xs : List D) (k : D) : dMul2 (.list xs) k = dMul (.list xs) k := by cases k <;> rfl
@[simp] theorem dMul2_t (xs : List D) (k : D) : dMul2 (.tuple xs) k = dMul (.tuple xs) k := by cases k <;> rfl
section
variable {X : Cx} {K : Kx}
theorem od_mul2 : OpF X K (binaryOp .Mult) dMul2 := fun hK => by
  obtain ⟨r, h1, h2⟩ := od_mul (X := X) (K := K) hK
  refine ⟨_, opR_or h1 op_mulS, fun M H v u a b c Q fr ha hb e q => ?_⟩
  by_cases hs : ∃ x k, a = .str x ∧ b = .int k
  · obtain ⟨x, k, rfl, rfl⟩ := hs
    obtain ⟨⟨g1, g2, g3⟩, rfl⟩ := iteSome (show (if 0 ≤ k ∧ k ≤ 1000 ∧ x.length ≤ 1000 then some (D.str (repS k.toNat x)) else none) = some c from e)
    exact .inr ⟨x, k, ha.str, hb.int, g1, g2, g3, q _ H (Same.refl _) (.str _)⟩
  · refine .inl (h2 M H v u a b c Q fr ha hb ?_ q)
    rw [← e]
    cases a <;> first | rfl | (cases b <;> first | rfl | exact absurd ⟨_, _, rfl, rfl⟩ hs)
end
/-! ### {} -/
def fEmp : FE := fun _ => .ret (.d (.dict []))
@[simp] theorem fEmp_def (δ : Sl) : fEmp δ = .ret (.d (.dict [])) := rfl
/-! ### own lists out of texts -/
def fXlist2 (f : FE) : FX := fun δ => (f δ).bind fun w => w.rd.bind fun x => (T.of (gList2 [x])).bind fun d => .ret (.fr d)
@[simp] theorem fXlist2_def (f : FE) (δ : Sl) : fXlist2 f δ = (f δ).bind fun w => w.rd.bind fun x => (T.of (gList2 [x])).bind fun d => .ret (.fr d) := rfl
section
variable {X : Cx} {F : Fc} {e : Expr} {f : FE} {pos p : Pos}
theorem pf_emp : PF X F (.Dict [] [] pos) fEmp := ⟨fun Z tk => pe_to pe_dnewK fun σ H Q ⟨M, δ, n, ok, q⟩ => fun l hl => q _ _ (Kp.of (same1 hl)) (ok.same (same1 hl)) (.dic (hid_mk (ok.fresh hl) upd_same) .nil)⟩
theorem fx_list2 (hc : X.calm = true) (hg : Gl X "list") (hm : X.mg "list" = none) (h : PF X F e f) (hK : X.K = F.K.K := by rfl) (he : starEach [e] X.env = (false, eval e X.env) :: starEach [] X.env := by rfl) (hpl : (backTo pos (starEach [] X.env)).any (·.1) = false := by rfl) : PFX X F (.Call (.Name "list" p) [e] [] pos) (fXlist2 f) :=
  ⟨fun Z tk => pe_to (pe_callTy (callR_or call_list_of (call_listS hc)) hg hm (by decide +kernel) (pa_cons (h.pe Z tk) pa_nil he) (by decide) (by decide) he hpl) fun σ H Q ⟨M, δ, n, ok, q⟩ => goE ok ((T.wp_bind _ _).mp q) fun w n1 v H1 q1 s1 ok1 v1 => by
    obtain ⟨x, hx, q2⟩ := rv_rd v1 ((T.wp_bind _ _).mp q1)
    obtain ⟨d, e, q3⟩ := T.wp_of.mp ((T.wp_bind _ _).mp q2)
    have fin : ∀ vs ds, DVs F.K (hid M H1) vs ds → d = .list ds → ∀ l, H1 l = none → Q (.ref l) (upd H1 l (.lst vs)) := fun vs ds hv ed l hl => by
      subst ed
      obtain ⟨a1, a2⟩ := ok1.add hl (same1 hl) upd_same
      exact q3 _ (l :: M) _ ⟨l, _, rfl, rfl, none_back ok s1 ok1 hl, upd_same, .lst (hv.same a2), rfl⟩ (s1.trans (Kp.of (same1 hl))) a1
    match x, hx, e with
    | .list ds, hx, e =>
      cases e
      obtain ⟨a, vs, rfl, h1, h2⟩ := hx.list
      exact .inl ⟨a, vs, rfl, .inl (SqL.of h1), fin vs ds h2 rfl⟩
    | .tuple ds, hx, e =>
      cases e
      obtain ⟨a, vs, rfl, h1, h2, _⟩ := hx.tuple
      exact .inl ⟨a, vs, rfl, .inr (by rw [hK]; exact h1), fin vs ds h2 rfl⟩
    | .str x, hx, e =>
      obtain ⟨l, rfl⟩ := iteSome (show (if x.length ≤ 1000000 then some (D.list (signs x)) else none) = some d from e)
      cases hx.str
      exact .inr ⟨x, rfl, big l, fin _ _ (dvs_signs _) rfl⟩⟩
end
/-! ### x += e of ints -/
def augI (g : Int → Int → Int) : D → D → Option D
  | .int i, .int j => some (.int (g i j))
  | _, _ => none
@[simp] theorem augI_i (g : Int → Int → Int) (i j : Int) : augI g (.int i) (.int j) = some (.int (g i j)) := rfl
@[simp] theorem sAug_def (i : Nat) (g : D → D → Option D) (f : FE) (δ : Sl) : sAug i g f δ = (lft δ (fVar i δ)).bind fun a => (lft δ (f δ)).bind fun b => (lft δ a.rd).bind fun x => (lft δ b.rd).bind fun y => (lft δ (T.of (g x y))).bind fun z => .ret (.nx (δ.set i (some (S.v (.d z))))) := rfl
section
variable {X : Cx} {F : Fc} {e : Expr} {f : FE} {i : Nat} {x : Str} {pos pos' : Pos}
theorem aug_to {op : Operator} {g : Int → Int → Int} {Z : ZF} : ∀ D σ H, tS F Z (sAug i (augI g) f) D σ H → tAug i (tE F Z f) (ipI g) D σ H := fun D σ H ⟨M, δ, n, ok, q⟩ => by
  have q0 := (T.wp_mapEx _ _).mp ((T.wp_bind _ _).mp q)
  have key : ∀ (a : W) (v : V) , σ[i]? = some (some v) → VOk F M H v a → ((lft δ (f δ)).bind fun b => (lft δ a.rd).bind fun x => (lft δ b.rd).bind fun y => (lft δ (T.of (augI g x y))).bind fun z => T.ret (Out.nx (δ.set i (some (S.v (.d z)))))).wp n (edOf F D) (fun x n' => Z x.1 n' x.2) → tAug i (tE F Z f) (ipI g) D σ H := fun a v es hv q1 => by
    refine ⟨v, es, lftE ok ((T.wp_bind _ _).mp q1) fun b n1 u H1 q2 s1 ok1 v1 => ?_⟩
    obtain ⟨xd, ex, q3⟩ := rd_cases ((T.wp_mapEx _ _).mp ((T.wp_bind _ _).mp q2))
    obtain ⟨yd, ey, q4⟩ := rd_cases ((T.wp_mapEx _ _).mp ((T.wp_bind _ _).mp q3))
    obtain ⟨z, ez, q5⟩ := T.wp_of.mp ((T.wp_mapEx _ _).mp ((T.wp_bind _ _).mp q4))
    have hx := RV.kp (K := F.K) rfl s1 hv ex
    have hy := RV.kp (K := F.K) rfl Kp.refl v1 ey
    match xd, yd, hx, hy, ez with
    | .int p, .int r, hx, hy, ez =>
      cases ez
      exact ⟨p, r, hx.int, hy.int, q5 M _ H1 (ok1.set (w := .d (.int (g p r))) (.int _) fun _ => nol_d)⟩
  unfold fVar at q0
  split at q0
  · rename_i w e
    obtain ⟨v, e1, e2⟩ := ok.val i w e
    exact key w v e1 e2 q0
  · rename_i y e
    obtain ⟨p, o, e1, e2, e3, e4, e5, e6⟩ := ok.own i y e
    refine key (.ln y.shown) _ e1 ⟨p, o, rfl, e2, fun r er z => ?_, e4, e5.shown⟩ q0
    rcases e3 with e3 | ⟨s, es, z2, _⟩
    · exact e3.1 (by rw [z]; exact (ok.wel r er).1)
    · exact (ok.sw s es).2 r er (z.symm.trans z2)
  · exact q0.elim
theorem pfs_augA (hN : X.N.Nodup) (hi : X.N[i]? = some x) (hx : Loc X.env.scope x) (he : PF X F e f) (hf : X.fn x = true ∨ X.env.scope.names.lookup x = some .local := by first | exact .inl rfl | exact .inr rfl | assumption) : PFS X F (.AugAssign (.Name x pos') .Add e pos) (sAug i (augI fun a b => a + b) f) :=
  ⟨fun Z tk => ps_to (ps_aug hN hi hx (he.pe Z tk) ip_add hf) (aug_to (op := .Add))⟩
theorem pfs_augS (hN : X.N.Nodup) (hi : X.N[i]? = some x) (hx : Loc X.env.scope x) (he : PF X F e f) (hf : X.fn x = true ∨ X.env.scope.names.lookup x = some .local := by first | exact .inl rfl | exact .inr rfl | assumption) : PFS X F (.AugAssign (.Name x pos') .Sub e pos) (sAug i (augI fun a b => a - b) f) :=
  ⟨fun Z tk => ps_to (ps_aug hN hi hx (he.pe Z tk) ip_sub hf) (aug_to (op := .Sub))⟩
end
/-! ### x, y = e, f where a tuple is made -/
section
variable {X : Cx} {F : Fc} {fx gx : FX} {i j : Nat} {pos : Pos}
theorem pfs_parXc {a c : Expr} {es : List Expr} {kt k2 : Nat} {tp pt2 : Pos} (ha : PFX X F a fx) (hb : PFX X F c gx) (ht : PFG X (.Tuple es kt tp) (.many [i, j])) (hK : X.K = F.K.K := by rfl)
    (he : starEach [a, c] X.env = (false, eval a X.env) :: starEach [c] X.env := by rfl) (he2 : starEach [c] X.env = (false, eval c X.env) :: starEach [] X.env := by rfl)
    (hs : swapsWithSole [.Tuple es kt tp] (.Tuple [a, c] k2 pt2) pos.line X.env = pure false := by rfl) (hw : swappedStores [.Tuple es kt tp] (.Tuple [a, c] k2 pt2) X.env = pure none := by rfl) (h1 : (assignEach [.Tuple es kt tp] X.env).map (·.2) = [assign (.Tuple es kt tp) X.env] := by rfl) :
    PFS X F (.Assign [.Tuple es kt tp] (.Tuple [a, c] k2 pt2) pos) (sParX i j fx gx) :=
  ⟨fun Z tk => ps_to (ps_asg (pe_tupN (pa_cons (ha.pe Z tk) (pa_cons (hb.pe Z tk) pa_nil he2) he)) ht.pg hs hw h1) fun D σ H ⟨M, δ, n, ok, q⟩ => goX ok ((T.wp_mapEx _ _).mp ((T.wp_bind _ _).mp q)) fun w n1 v M1 H1 q1 x1 s1 ok1 =>
    goX ok1 ((T.wp_mapEx _ _).mp ((T.wp_bind _ _).mp q1)) fun u n2 v2 M2 H2 q2 x2 s2 ok2 => by
      have p1 := x1.put ok ok1
      have p1' := p1.step ok1 x2 s2
      have p2 := p1.behind (i := i) ok1 x2 (x2.put ok1 ok2)
      refine ⟨by show 2 ≤ 1000000; decide, fun p H' np s e => .inl ⟨p, [v, v2], rfl, by rw [hK]; exact SqT.of e, rfl, _, _, rfl, _, _, rfl, rfl, ?_⟩⟩
      exact q2 M2 _ H' ((p2.set (p1'.set ok2)).same s)⟩
end
end FL

/-! Texts as data: one sign, two signs, lists of texts; rows of a comprehension. -/
namespace FL
open PySem PySem.Spec
/-- a text by its codes -/
def tx (cs : List Nat) : Str := ⟨cs.toArray⟩
theorem tx_list (cs : List Nat) : (tx cs).cps.toList = cs := rfl
theorem tx_len (cs : List Nat) : (tx cs).length = cs.length := rfl
theorem tx_eta (x : Str) : tx x.cps.toList = x := str_ext rfl
theorem tx_inj {a b : List Nat} : tx a = tx b ↔ a = b := ⟨fun h => by rw [← tx_list a, h, tx_list], fun h => by rw [h]⟩
theorem tx_app (a b : List Nat) : tx a ++ tx b = tx (a ++ b) := str_ext (by
  show ((tx a).cps ++ (tx b).cps).toList = _
  rw [Array.toList_append]
  rfl)
/-- one sign -/
def on (c : Nat) : Str := ⟨#[c]⟩
theorem on_tx (c : Nat) : on c = tx [c] := rfl
theorem on_inj {a b : Nat} : on a = on b ↔ a = b := by
  rw [on_tx, on_tx, tx_inj, List.cons.injEq]
  exact ⟨fun h => h.1, fun h => ⟨h, rfl⟩⟩
def tds (xs : List Str) : List D := xs.map .str
theorem tds_nil : tds [] = [] := rfl
theorem tds_cons (x : Str) (xs : List Str) : tds (x :: xs) = .str x :: tds xs := rfl
theorem tds_app (xs ys : List Str) : tds (xs ++ ys) = tds xs ++ tds ys := List.map_append ..
@[simp] theorem tds_len (xs : List Str) : (tds xs).length = xs.length := List.length_map ..
theorem tds_at (xs : List Str) (i : Nat) : (tds xs)[i]? = (xs[i]?).map .str := List.getElem?_map ..
theorem tds_inj {xs ys : List Str} : tds xs = tds ys ↔ xs = ys := by
  constructor
  · intro h
    induction xs generalizing ys with
    | nil => cases ys with
      | nil => rfl
      | cons y ys => cases h
    | cons x xs ih => cases ys with
      | nil => cases h
      | cons y ys =>
        rw [tds_cons, tds_cons] at h
        injection h with h1 h2
        injection h1 with h1
        rw [h1, ih h2]
  · intro h
    rw [h]
theorem signs_tds (x : Str) : signs x = tds (x.cps.toList.map on) := by
  unfold signs tds
  rw [List.map_map]
  rfl
@[simp] theorem txts_tds : ∀ xs : List Str, txts (tds xs) = some xs
  | [] => rfl
  | x :: xs => by
    show (txts (tds xs)).map (x :: ·) = _
    rw [txts_tds xs]
    rfl
theorem txts_map (xs : List Str) : txts (xs.map .str) = some xs := txts_tds xs
/-- valid texts -/
def okT (xs : List Str) : Bool := xs.all PyData.strOk
theorem flat_tds : ∀ xs : List Str, D.flatL (tds xs) = true
  | [] => rfl
  | x :: xs => flat_tds xs
theorem lay_tds : ∀ xs : List Str, PyData.canLayAll0 (D.pyL (tds xs)) = okT xs
  | [] => rfl
  | x :: xs => by
    show (PyData.strOk x && PyData.canLayAll0 (D.pyL (tds xs))) = (PyData.strOk x && xs.all PyData.strOk)
    rw [lay_tds xs]
    rfl
theorem depth_tds : ∀ xs : List Str, PyData.depthAll (D.pyL (tds xs)) = 0
  | [] => rfl
  | x :: xs => by
    show max 0 (PyData.depthAll (D.pyL (tds xs))) = 0
    rw [depth_tds xs]
    rfl
theorem okEq_lst (xs : List Str) : okEq (.list (tds xs)) = okT xs := by
  show (D.flatL (tds xs) && (PyData.canLayAll0 (D.pyL (tds xs)) && decide (PyData.depthAll (D.pyL (tds xs)) + 1 ≤ 64))) = _
  rw [flat_tds, lay_tds, depth_tds]
  simp
theorem okEq_tpl (xs : List Str) : okEq (.tuple (tds xs)) = okT xs := by
  show (D.flatL (tds xs) && (PyData.canLayAll0 (D.pyL (tds xs)) && decide (PyData.depthAll (D.pyL (tds xs)) + 1 ≤ 64))) = _
  rw [flat_tds, lay_tds, depth_tds]
  simp
theorem eqvA_tds : ∀ xs ys : List Str, PyData.eqvAll (D.pyL (tds xs)) (D.pyL (tds ys)) = decide (xs = ys)
  | [], [] => rfl
  | [], y :: ys => by
    rw [tds_cons]
    simp [tds_nil]
  | x :: xs, [] => by
    rw [tds_cons]
    simp [tds_nil]
  | x :: xs, y :: ys => by
    rw [tds_cons, tds_cons, eqvAll_cons, eqvA_tds xs ys, eqv_str]
    by_cases h1 : x = y <;> by_cases h2 : xs = ys <;> simp [h1, h2]
theorem eqv_lst (xs ys : List Str) : eqv (.list (tds xs)) (.list (tds ys)) = decide (xs = ys) := eqvA_tds xs ys
theorem eqv_tpl (xs ys : List Str) : eqv (.tuple (tds xs)) (.tuple (tds ys)) = decide (xs = ys) := eqvA_tds xs ys
theorem any_tds (xs : List Str) (x : Str) : ((tds xs).any fun z => eqv z (.str x)) = decide (x ∈ xs) := by
  induction xs with
  | nil => rfl
  | cons y ys ih =>
    rw [tds_cons, List.any_cons, ih, eqv_str]
    by_cases h : y = x
    · simp [h]
    · have h' : ¬ x = y := fun z => h z.symm
      by_cases h2 : x ∈ ys <;> simp [h, h', h2]
theorem dIn_tds {xs : List Str} {x : Str} (h : okT (x :: xs) = true) : dIn (.str x) (.list (tds xs)) = some (.bool (decide (x ∈ xs))) := by
  have h' : PyData.strOk x = true ∧ okT xs = true := Bool.and_eq_true_iff.mp h
  show (if okEq (.str x) = true ∧ okEq (.list (tds xs)) = true then some (D.bool ((tds xs).any fun z => eqv z (.str x))) else none) = _
  rw [okEq_str, okEq_lst, if_pos h', any_tds]
/-- a sign of a text -/
theorem dIn_on (c : Nat) (y : Str) : dIn (.str (on c)) (.str y) = some (.bool (decide (c ∈ y.cps.toList))) := rfl
theorem dIx_sign {x : Str} {i : Nat} {c : Nat} (hl : x.length ≤ 1000000) (h : x.cps.toList[i]? = some c) : dIx (.str x) (.int (i : Int)) = some (.str (on c)) := by
  rw [dIx_s, if_pos hl, show L2.atI x.cps.toList (i : Int) = some c from L2.atI_nat h]
  rfl
/-- rows of a comprehension that ask plainly -/
theorem items_pure {α : Type} {tg : Tg} {δ : Sl} {ft : FT} {fe : FE} (e : α → D) (t : α → Bool) (v : α → D) : ∀ xs : List α, (∀ x ∈ xs, ∃ δ1, putT tg δ (e x) = some δ1 ∧ ft δ1 = .ret (t x) ∧ (t x = true → fe δ1 = .ret (.d (v x)))) → itemsL tg δ ft (fOne fe) (xs.map e) = .ret ((xs.filter t).map v)
  | [], _ => rfl
  | x :: xs, h => by
    obtain ⟨δ1, h1, h2, h3⟩ := h x (List.mem_cons_self ..)
    have ih := items_pure e t v xs fun y hy => h y (List.mem_cons_of_mem _ hy)
    show (T.of (putT tg δ (e x))).bind _ = _
    rw [h1, T.of_some, T.ret_bind, h2, T.ret_bind]
    by_cases hx : t x = true
    · rw [if_pos hx, fOne_def, h3 hx]
      simp only [T.ret_bind, W.dat_d, ih, List.filter_cons, hx, if_true, List.map_cons, List.singleton_append]
    · rw [if_neg hx, ih, List.filter_cons, if_neg hx]
/-- two clauses, each asking plainly -/
theorem items_pure2 {α β : Type} {tg : Tg} {δ : Sl} {g : Sl → R (List D)} (e : α → D) (v : α → List D) : ∀ xs : List α, (∀ x ∈ xs, ∃ δ1, putT tg δ (e x) = some δ1 ∧ g δ1 = .ret (v x)) → itemsL tg δ fYes g (xs.map e) = .ret (xs.map v).flatten
  | [], _ => rfl
  | x :: xs, h => by
    obtain ⟨δ1, h1, h2⟩ := h x (List.mem_cons_self ..)
    have ih := items_pure2 (β := β) e v xs fun y hy => h y (List.mem_cons_of_mem _ hy)
    show (T.of (putT tg δ (e x))).bind _ = _
    rw [h1, T.of_some, T.ret_bind, fYes_def, T.ret_bind, if_pos rfl, h2, T.ret_bind, ih, T.ret_bind]
    rfl
/-! ### order -/
theorem leS_on {a b : Nat} : leS (on a) (on b) ↔ a ≤ b := by
  show [a] ≤ [b] ↔ a ≤ b
  constructor
  · intro h
    exact Nat.le_of_not_lt fun z => (List.not_lt.mpr h) (List.cons_lt_cons_iff.mpr (.inl z))
  · intro h
    exact List.not_lt.mp fun z => by
      rcases List.cons_lt_cons_iff.mp z with z | ⟨_, z⟩
      · omega
      · cases z
theorem sortS_perm_eq {xs ys : List Str} (h : xs.Perm ys) : sortS xs = sortS ys := sortS_eq ((sortS_perm xs).trans h) (sortS_pw xs)
theorem sortS_id {xs : List Str} (h : xs.Pairwise leS) : sortS xs = xs := (sortS_eq (List.Perm.refl xs) h).symm
theorem uniqS_id {xs : List Str} (h : xs.Nodup) : uniqS xs = xs := by
  induction xs with
  | nil => rfl
  | cons x xs ih =>
    obtain ⟨h1, h2⟩ := List.nodup_cons.mp h
    unfold uniqS
    rw [ih h2, if_neg h1]
theorem on_asc {cs : List Nat} (h : cs.Pairwise (· < ·)) : (cs.map on).Pairwise leS := List.pairwise_map.mpr (h.imp fun q => leS_on.mpr (Nat.le_of_lt q))
theorem asc_nodup {cs : List Nat} (h : cs.Pairwise (· < ·)) : cs.Nodup := h.imp fun q => Nat.ne_of_lt q
theorem on_nodup {cs : List Nat} (h : cs.Nodup) : (cs.map on).Nodup := List.pairwise_map.mpr (h.imp fun q z => q (on_inj.mp z))
theorem sset_asc {cs : List Nat} (h : cs.Pairwise (· < ·)) : sortS (uniqS (cs.map on)) = cs.map on := by
  rw [uniqS_id (on_nodup (asc_nodup h)), sortS_id (on_asc h)]
/-! ### joined -/
theorem join_on : ∀ cs : List Nat, Str.join (tx []) (cs.map on) = tx cs
  | [] => rfl
  | [c] => rfl
  | c :: d :: cs => by
    show on c ++ tx [] ++ Str.join (tx []) ((d :: cs).map on) = _
    rw [join_on (d :: cs), on_tx, tx_app, tx_app]
    rfl
theorem sum_on (cs : List Nat) : ((cs.map on).map (·.length)).sum = cs.length := by
  induction cs with
  | nil => rfl
  | cons c cs ih =>
    rw [List.map_cons, List.map_cons, List.sum_cons, ih, List.length_cons]
    show 1 + cs.length = _
    omega
theorem joinS_on {cs : List Nat} (h : cs.length ≤ 1000000) : joinS (tx []) (cs.map on) = some (.str (tx cs)) := by
  unfold joinS
  rw [join_on, sum_on, if_pos]
  show cs.length + (cs.map on).length * 0 ≤ 1000000
  omega
end FL

/-! What the laws' helpers give: an order, some of some. -/
namespace FL
open PySem PySem.Spec
abbrev vD (x : D) : Option S := some (.v (.d x))
abbrev vW : Option S := some (.v .wl)
abbrev ownL (l : List D) : Option S := some (.own (.list l))
theorem cons_eraseIdx {α : Type} : ∀ (l : List α) (j : Nat) (h : j < l.length), (l[j] :: l.eraseIdx j).Perm l
  | a :: l, 0, _ => .refl _
  | a :: l, j + 1, h => (List.Perm.swap a _ _).trans ((cons_eraseIdx l j (Nat.lt_of_succ_lt_succ h)).cons a)
def ordC : FT := fVal (fOp dNe (fVar 2) (fSeq .list fNil))
def ordB : FS := sAppPop 3 2 (fCall gDraw (fCons (fVar 0) (fCons (fCB rDicts (fCons (fVar 2) fNil)) fNil)))
theorem eqv_nil (rs : List D) : eqv (.list rs) (.list []) = rs.isEmpty := by
  cases rs <;> rfl
theorem eqvA_nil (rs : List D) : PyData.eqvAll (D.pyL rs) (D.pyL []) = rs.isEmpty := by
  cases rs <;> rfl
theorem okEq_nil : okEq (.list []) = true := rfl
def OkAll (ds : List D) : Prop := ∀ es : List D, (∀ e ∈ es, e ∈ ds) → okEq (.list es) = true
theorem while_order {s1 : Option S} {Q : Out → Nat → Prop} {Z : Xn × Sl → Nat → Prop} {ds : List D} (ok : OkAll ds) : ∀ (m k : Nat) (rs es : List D) (n : Nat), rs.length = m → m < k → n + m ≤ 1048576 → es.length + m ≤ 1000 → (∀ e ∈ rs, e ∈ ds) →
    (∀ es' : List D, es'.Perm (es ++ rs) → Q (.nx [vW, s1, ownL [], ownL es']) (n + m)) → (whileN ordC ordB k [vW, s1, ownL rs, ownL es]).wp n Q Z
  | 0, k + 1, rs, es, n, h1, h2, h3, h4, h5, q => by
    have e : rs = [] := List.length_eq_zero_iff.mp h1
    subst e
    rw [whileN_succ]
    have ec : lft [vW, s1, ownL [], ownL es] (ordC [vW, s1, ownL [], ownL es]) = .ret false := by
      simp [ordC, okEq_nil, eqv_nil]
    rw [ec, T.ret_bind]
    simp
    exact q es (by simp)
  | m + 1, k + 1, rs, es, n, h1, h2, h3, h4, h5, q => by
    rw [whileN_succ]
    have ne : rs ≠ [] := fun z => by rw [z] at h1; cases h1
    have ie : rs.isEmpty = false := by cases rs with | nil => exact absurd rfl ne | cons => rfl
    have ec : lft [vW, s1, ownL rs, ownL es] (ordC [vW, s1, ownL rs, ownL es]) = .ret true := by
      simp [ordC, okEq_nil, eqvA_nil, ok rs h5, ie]
    rw [ec, T.ret_bind]
    simp only [if_true]
    rw [T.wp_bind]
    unfold ordB
    have hl : rs.length ≤ 1000000 := by omega
    simp [gDraw, T.bind_bind]
    refine draw_wp (by omega) (by omega) (by omega) fun v v0 v1 => ?_
    obtain ⟨j, rfl⟩ : ∃ j : Nat, v = (j : Int) := ⟨v.toNat, by omega⟩
    have hj : j < rs.length := by omega
    rw [if_pos ⟨v0, by omega, hl⟩, Int.toNat_natCast, List.getElem?_eq_getElem hj, T.of_some, T.mapEx_ret, T.ret_bind, T.wp_ret]
    show (whileN ordC ordB k [vW, s1, ownL (rs.eraseIdx j), ownL (es ++ [rs[j]])]).wp (n + 1) Q Z
    refine while_order ok m k _ _ (n + 1) (by rw [List.length_eraseIdx_of_lt hj]; omega) (by omega) (by omega) (by rw [List.length_append]; simp; omega) (fun e he => h5 e (List.mem_of_mem_eraseIdx he)) fun es' p => ?_
    have pe : es'.Perm (es ++ rs) := p.trans (by
      rw [List.append_assoc]
      exact List.Perm.append_left es (cons_eraseIdx rs j hj))
    have e2 : n + 1 + m = n + (m + 1) := by omega
    rw [e2]
    exact q es' pe
def b_order : FS := sSeq (sParX 2 3 (fXlist2 (fVar 1)) (fXl fNil)) (sSeq (sWhile ordC ordB) (sFrz 3 (sFrz 2 (sRet (fVar 3)))))
def f_order : FFn := mk 4 2 b_order
theorem order_wp {ds : List D} {n : Nat} {Q : D → Nat → Prop} {Z : Xn → Nat → Prop} (ok : OkAll ds) (hl : ds.length ≤ 1000) (hn : n + ds.length ≤ 1048576) (k : ∀ es : List D, es.Perm ds → Q (.list es) (n + ds.length)) : (f_order [.wl, .d (.list ds)]).wp n Q Z := by
  have e1 : (sParX 2 3 (fXlist2 (fVar 1)) (fXl fNil)) [vW, vD (.list ds), none, none] = .ret (.nx [vW, vD (.list ds), ownL ds, ownL []]) := by simp
  unfold f_order
  unfold b_order
  simp only [mk_def]
  rw [if_pos (show [W.wl, W.d (D.list ds)].length = 2 from rfl), show startL 4 [W.wl, W.d (D.list ds)] = [vW, vD (.list ds), none, none] from rfl, T.wp_bind, T.wp_mapEx, sSeq_def, e1, T.ret_bind, oSeq_nx, sSeq_def, T.wp_bind]
  unfold sWhile
  refine while_order ok ds.length 1000000 ds [] n rfl (by omega) hn (by simp; omega) (fun e he => he) fun es' p => ?_
  rw [oSeq_nx]
  simp
  exact k es' p

/-- of texts -/
theorem okAll_tds {xs : List Str} (h : okT xs = true) : OkAll (tds xs) := fun es he => by
  obtain ⟨ys, rfl, hy⟩ : ∃ ys : List Str, es = tds ys ∧ ∀ y ∈ ys, y ∈ xs := by
    induction es with
    | nil => exact ⟨[], rfl, fun y hy => by cases hy⟩
    | cons e es ih =>
      obtain ⟨ys, rfl, hy⟩ := ih fun z hz => he z (List.mem_cons_of_mem _ hz)
      obtain ⟨x, hx, rfl⟩ := List.mem_map.mp (he e (List.mem_cons_self ..))
      exact ⟨x :: ys, rfl, fun y h => (List.mem_cons.mp h).elim (fun z => z ▸ hx) (hy y)⟩
  rw [okEq_lst]
  exact List.all_eq_true.mpr fun y h => List.all_eq_true.mp h' y (hy y h)
where
  h' := h
theorem perm_tds {xs : List Str} {es : List D} (p : es.Perm (tds xs)) : ∃ ys : List Str, es = tds ys ∧ ys.Perm xs := by
  have h2 := p.map (fun d => match d with | .str x => x | _ => Str.empty)
  have e : (tds xs).map (fun d => match d with | .str x => x | _ => Str.empty) = xs := by
    unfold tds
    rw [List.map_map]
    exact List.map_id _
  rw [e] at h2
  refine ⟨_, ?_, h2⟩
  unfold tds
  rw [List.map_map]
  have : ∀ d ∈ es, (D.str ∘ fun d => match d with | .str x => x | _ => Str.empty) d = d := fun d hd => by
    obtain ⟨x, _, rfl⟩ := List.mem_map.mp (p.subset hd)
    rfl
  exact (List.map_id' es).symm.trans (List.map_congr_left fun d hd => (this d hd).symm)
/-- one for one out of many -/
def f_some : FFn := mk 4 3 (sRet (fLc (fIt (fVar 1)) (.one 3) [3] (fVal (fOp dEq (fCall gDraw (fCons (fVar 0) (fCons (fVar 2) fNil))) (fC (.int 0)))) (fVar 3)))
theorem some_rows {m : Int} {s1 s2 : Option S} (hm : 0 < m) (h2 : m < 1073741824) (hs : s2 = vD (.int m)) {Q : List D → Nat → Prop} {Z : Xn → Nat → Prop} : ∀ (xs : List D) (n : Nat), n + xs.length ≤ 1048576 → (∀ ys : List D, ys.Sublist xs → Q ys (n + xs.length)) →
    (itemsL (.one 3) [vW, s1, s2, none] (fVal (fOp dEq (fCall gDraw (fCons (fVar 0) (fCons (fVar 2) fNil))) (fC (.int 0)))) (fOne (fVar 3)) xs).wp n Q Z
  | [], n, _, k => k [] (.slnil)
  | x :: xs, n, hn, k => by
    rw [List.length_cons] at hn
    subst hs
    show T.wp ((T.of (putT (.one 3) _ x)).bind _) n Q Z
    rw [putT_one, T.of_some, T.ret_bind]
    simp [T.bind_bind]
    refine draw_wp hm h2 (by omega) fun v v0 v1 => ?_
    have ih := fun (Q' : List D → Nat → Prop) (h : ∀ ys : List D, ys.Sublist xs → Q' ys (n + 1 + xs.length)) => some_rows (s1 := s1) hm h2 rfl (Q := Q') (Z := Z) xs (n + 1) (by omega) h
    have el : n + 1 + xs.length = n + (xs.length + 1) := by omega
    by_cases hv : v = 0
    · simp only [hv, if_true, T.wp_bind]
      refine ih _ fun ys p => ?_
      rw [el]
      exact k (x :: ys) (p.cons₂ x)
    · simp only [hv, if_false]
      refine ih _ fun ys p => ?_
      rw [el]
      exact k ys (p.cons x)
theorem some_wp {xs : List D} {m : Int} {n : Nat} {Q : D → Nat → Prop} {Z : Xn → Nat → Prop} (hm : 0 < m) (h2 : m < 1073741824) (hl : xs.length ≤ 1000) (hn : n + xs.length ≤ 1048576) (k : ∀ ys : List D, ys.Sublist xs → Q (.list ys) (n + xs.length)) : (f_some [.wl, .d (.list xs), .d (.int m)]).wp n Q Z := by
  have l1 : xs.length ≤ 1000000 := by omega
  unfold f_some
  simp only [mk_def]
  rw [if_pos (show [W.wl, W.d (D.list xs), W.d (.int m)].length = 3 from rfl), show startL 4 [W.wl, W.d (D.list xs), W.d (.int m)] = [vW, vD (.list xs), vD (.int m), none] from rfl]
  rw [T.wp_bind, T.wp_mapEx, sRet_def, T.wp_bind, lft_def, T.wp_mapEx, fLc_def, if_pos (show noOwns [vW, vD (D.list xs), vD (D.int m), none] [3] = true from rfl), T.wp_bind]
  simp only [fIt_def, fVar_def, List.getElem?_cons_succ, List.getElem?_cons_zero, T.ret_bind, W.dat_d, itemsOf_l, T.of_some, T.wp_ret]
  rw [if_pos l1, T.wp_bind, T.wp_noex]
  refine some_rows hm h2 rfl xs n hn fun ys p => ?_
  simpa using k ys p
end FL

/-! An own list out of a comprehension. -/
namespace FL
open PySem PySem.Spec PyProof.Rows L2 Gd Fx Stp LamX Lm
def fXlc (fs : FI) (tg : Tg) (vs : List Nat) (ft : FT) (fe : FE) : FX := fun δ => if noOwns δ vs = true then (fs δ).bind fun xs => if xs.length ≤ 1000000 then ((itemsL tg (wipeD δ vs) ft (fOne fe) xs).noex).bind fun ys => .ret (.fr (.list ys)) else .bad else .bad
@[simp] theorem fXlc_def (fs : FI) (tg : Tg) (vs : List Nat) (ft : FT) (fe : FE) (δ : Sl) : fXlc fs tg vs ft fe δ = if noOwns δ vs = true then (fs δ).bind fun xs => if xs.length ≤ 1000000 then ((itemsL tg (wipeD δ vs) ft (fOne fe) xs).noex).bind fun ys => .ret (.fr (.list ys)) else .bad else .bad := rfl
section
variable {X : Cx} {F : Fc} {fs : FI} {ft : FT} {fe : FE} {p : Tg} {vs : List Nat} {elt iter tg : Expr} {ifs : List Expr} {scope : Scope} {pos : Pos}
theorem lcx_run {Z : ZF} (hsub : p.sub vs = true) (hK : X.K = F.K.K) :
    ∀ σ H Q, tX F Z (fXlc fs p vs ft fe) σ H Q → tLc (tI F Z fs) (gOf X.K p) (tT F (fun _ _ _ => False) ft) (tE F (fun _ _ _ => False) fe) vs σ H Q := fun σ H Q ⟨M, δ, n, ok, q0⟩ => by
  obtain ⟨hno, q⟩ := wp_if q0
  refine ⟨M, δ, n, ok, T.wp_mono (fun xs n1 q1 J H1 s1 ok1 src => ?_) (fun _ _ z => z) _ _ ((T.wp_bind _ _).mp q)⟩
  obtain ⟨hl, q1⟩ := wp_if q1
  have q2 := (T.wp_noex _ _).mp ((T.wp_bind _ _).mp q1)
  intro Dd hD
  obtain ⟨okD, sD⟩ := ok1.add (p := Dd) (o := .lst []) hD (same1 hD) upd_same
  have okW := okD.wipe vs
  have hDM : Dd ∉ M := ok1.fresh hD
  have hD0 : Dd ∉ F.M0 := fun z => hDM (ok1.sub Dd z)
  have hDw : ∀ q, F.wl = some q → Dd ≠ q.1 := fun q e z => hD0 (by rw [z]; exact (ok1.wel q e).1)
  have hDs0 : ∀ (j : Nat) (y : D), δ[j]? = some (some (S.own y)) → σ[j]? ≠ some (some (V.ref Dd)) := fun j y e e2 => by
    obtain ⟨p, o, g1, g2, _⟩ := ok1.own j y e
    rw [e2] at g1
    cases g1
    exact hDM g2
  have hDs : ∀ (j : Nat) (y : D), (wipeD δ vs)[j]? = some (some (S.own y)) → (L2.wipe σ vs)[j]? ≠ some (some (V.ref Dd)) := fun j y e e2 => by
    have e2' := (wipe_some e2).1
    exact hDs0 j y (wipeD_at e) e2'
  let Qe : List D → Nat → Prop := fun ys n2 => ∀ v M' H', VX F M H M' H' v (.fr (.list ys)) → Kp F M H H' → Ok F M' σ H' δ n2 → Q v H'
  let St : Nat → Hp → Prop := fun j H2 => ∃ (acc : List D) (n2 : Nat) (vl : List V), Ok F (Dd :: M) (L2.wipe σ vs) H2 (wipeD δ vs) n2 ∧ H2 Dd = some (.lst vl) ∧ DVs F.K (hid (Dd :: M) H2) vl acc ∧ acc.length ≤ j ∧ Same (hid M H1) (hid (Dd :: M) H2) ∧ (∀ p ∈ M, (∀ q, F.wl = some q → p ≠ q.1) → ∀ o, (∀ ps, o ≠ HO.tbl ps) → H1 p = some o → H2 p = some o) ∧
    (itemsL p (wipeD δ vs) ft (fOne fe) (xs.drop j)).wp n2 (fun ys n3 => Qe (acc ++ ys) n3) (fun _ _ => False)
  refine ⟨fun j m H2 => m = xs.length - j ∧ j ≤ xs.length ∧ St j H2, ⟨_, rfl, Nat.zero_le _, [], n1, [], okW, upd_same, .nil, Nat.le_refl _, sD, fun p hp _ o _ e => same1 hD _ _ e, q2⟩, ?_⟩
  rintro j m H2 ⟨rfl, hj, acc, n2, vl, ok2, e2, v2, hacc, se, sf, q3⟩
  by_cases hlt : j < xs.length
  · refine .inr ⟨src.goes j _ H2 hlt se, St (j + 1), fun H' st => ⟨xs.length - (j + 1), by omega, rfl, hlt, st⟩, fun y H' yl => ?_⟩
    obtain ⟨s3, d, e1, d1⟩ := src.yields j _ H2 y H' hlt se (fun p hp => ok2.fresh hp) yl
    have ed : xs.drop j = d :: xs.drop (j + 1) := by
      rw [List.drop_eq_getElem_cons hlt]
      rw [List.getElem?_eq_getElem hlt] at e1
      rw [Option.some.inj e1]
    rw [ed] at q3
    obtain ⟨δ1, e3, q4⟩ := wp_items q3
    have hww : ∀ {E : L2.St → Hp → Prop}, gOf X.K p y (L2.wipe σ vs) H' E → gOf X.K p y (L2.wipe σ vs) H' fun σ2 H2 => L2.wipe σ2 vs = L2.wipe σ vs ∧ E σ2 H2 := fun h => by
      have := gOf_keep hsub h
      rw [wipe_wipe σ vs vs fun _ z => z] at this
      exact this
    have key : ∀ H4, Kp F (Dd :: M) H' H4 → ∀ n4 {σ2 : L2.St}, Ok F (Dd :: M) σ2 H4 δ1 n4 → Ok F (Dd :: M) (L2.wipe σ vs) H4 (wipeD δ vs) n4 := fun H4 kp n4 σ2 ok4 => by
      refine (ok2.same s3).back kp ok4.tab.1 ok4.al fun q eq => (ok4.wel q eq).2
    have e2' : H' Dd = some (.lst vl) := s3 _ _ e2
    have ntl : ∀ ps, HO.lst vl ≠ HO.tbl ps := fun ps z => by cases z
    refine hww (gOf_run hK (ok2.same s3) d1 e3 fun σ2 okT => ?_)
    refine goT okT q4 fun c n3 H3 q5 s4 ok4 => iteMono (fun q6 => ?_) (fun q6 => ?_) q5
    · refine goE ok4 ((T.wp_bind _ _).mp q6) fun w n4 v H4 q7 s5 ok5 v5 => ?_
      obtain ⟨x, rfl, hv, q8⟩ := dv_dat v5 ((T.wp_bind _ _).mp q7)
      have kp := s4.trans s5
      have okB := key H4 kp n4 ok5
      have sD : Same (hid (Dd :: M) H2) (hid (Dd :: M) H4) := (hid_same s3).trans kp.s
      have e4 : H4 Dd = some (.lst vl) := kp.f _ (List.mem_cons_self ..) hDw _ ntl e2'
      have hpk : hid (Dd :: M) (upd H4 Dd (.lst (vl ++ [v]))) = hid (Dd :: M) H4 := hid_poke (List.mem_cons_self ..)
      refine ⟨vl, e4, by rw [v2.length]; exact Nat.lt_of_le_of_lt hacc (Nat.lt_of_lt_of_le (Nat.lt_of_lt_of_le hlt hl) (by decide)), acc ++ [x], n4, vl ++ [v], okB.poke (List.mem_cons_self ..) hD0 e4 (.lst (v2.same sD)) hDs, upd_same, ?_, by rw [List.length_append]; exact Nat.succ_le_succ hacc, ?_, fun p hp hw o ho e => ?_, ?_⟩
      · rw [hpk]
        exact (v2.same sD).append (.cons hv .nil)
      · rw [hpk]
        exact se.trans sD
      · rw [upd_ne fun z => hDM (by rw [← z]; exact hp)]
        exact kp.f p (List.mem_cons_of_mem _ hp) hw o ho (s3 _ _ (sf p hp hw o ho e))
      · refine T.wp_mono (fun zs n5 q9 => ?_) (fun _ _ z => z) _ _ q8
        rw [List.append_assoc]
        exact q9
    · have sD : Same (hid (Dd :: M) H2) (hid (Dd :: M) H3) := (hid_same s3).trans s4.s
      exact ⟨acc, n3, vl, key H3 s4 n3 ok4, s4.f _ (List.mem_cons_self ..) hDw _ ntl e2', v2.same sD, Nat.le_succ_of_le hacc, se.trans sD, fun p hp hw o ho e => s4.f p (List.mem_cons_of_mem _ hp) hw o ho (s3 _ _ (sf p hp hw o ho e)), q6⟩
  · have ej : j = xs.length := by omega
    subst ej
    rw [List.drop_length] at q3
    have sM : Same (hid M H1) (hid M H2) := se.trans (hid_sub fun p hp => List.mem_cons_of_mem _ hp)
    have kM : Kp F M H1 H2 := ⟨sM, sf⟩
    have q4 : Qe (acc ++ []) n2 := q3
    rw [List.append_nil] at q4
    -- the slots as they were, the list kept apart
    have okP : Ok F (Dd :: M) σ (upd (upd H1 Dd (.lst [])) Dd (.lst vl)) δ n1 := okD.poke (List.mem_cons_self ..) hD0 upd_same (.lst .nil) hDs0
    have hh : hid (Dd :: M) (upd (upd H1 Dd (.lst [])) Dd (.lst vl)) = hid (Dd :: M) (upd H1 Dd (.lst [])) := hid_poke (List.mem_cons_self ..)
    have kP : Kp F (Dd :: M) (upd (upd H1 Dd (.lst [])) Dd (.lst vl)) H2 := ⟨fun b o e => by
      rw [hh] at e
      obtain ⟨b1, b2⟩ := hid_some e
      have bD : b ≠ Dd := fun z => b1 (by rw [z]; exact List.mem_cons_self ..)
      rw [upd_ne bD] at b2
      exact se b o (hid_mk (fun z => b1 (List.mem_cons_of_mem _ z)) b2), fun b hb hw o ho e => by
      by_cases z : b = Dd
      · rw [z, upd_same] at e
        rw [z, e2]
        exact e
      · rw [upd_ne z, upd_ne z] at e
        exact sf b ((List.mem_cons.mp hb).resolve_left z) hw o ho e⟩
    have okE : Ok F (Dd :: M) σ H2 δ n2 := okP.back kP ok2.tab.1 ok2.al fun q eq => (ok2.wel q eq).2
    exact .inl ⟨src.stops _ H2 se, q4 (.ref Dd) (Dd :: M) H2 ⟨Dd, _, rfl, rfl, none_back ok s1 ok1 hD, e2, .lst v2, rfl⟩ (s1.trans kM) okE⟩
theorem fx_lc {own : List (Str × Nat)} (hc : X.calm = true) (hN : X.N.Nodup) (hs : PFI X F tg iter fs) (ok : BlkOk X.N X.env.scope scope own) (hv : own.map (·.2) = vs) (hsub : p.sub vs = true)
    (hg : ∀ (s : Shared) (H : Hp) (C : Addr) (cl : List (Str × Addr)) (fp : List Addr), PFG (X.blk s H scope (compEnvC scope cl C X.env) fp) tg p) (ht : ∀ (s : Shared) (H : Hp) (C : Addr) (cl : List (Str × Addr)) (fp : List Addr), PFTs (X.blk s H scope (compEnvC scope cl C X.env) fp) F ifs ft)
    (he : ∀ (s : Shared) (H : Hp) (C : Addr) (cl : List (Str × Addr)) (fp : List Addr), PF (X.blk s H scope (compEnvC scope cl C X.env) fp) F elt fe) (hK : X.K = F.K.K := by rfl) (hfo : ∀ x, foldedSetIterable iter X.env x = pure x := by intro _; rfl) :
    PFX X F (.ListComp elt [⟨tg, iter, ifs, 0⟩] scope pos) (fXlc fs p vs ft fe) := by
  subst hv
  exact ⟨fun Z tk => pe_to (pe_lc (own := own) (g := gOf X.K p) hc hN (hs.pi Z tk) ok (fun s H C cl fp => (hg s H C cl fp).pg) (fun s H C cl fp => (ht s H C cl fp).pts _ lk0) (fun s H C cl fp => (he s H C cl fp).pe _ lk0) hfo) (lcx_run hsub hK)⟩
/-- x = [..] on one row, x to be changed -/
theorem pfs_setXlc {i : Nat} {y : Str} {py spos : Pos} {own : List (Str × Nat)} (hc : X.calm = true) (hN : X.N.Nodup) (hy : X.N[i]? = some y) (hyl : X.env.scope.names.lookup y = some .local)
    (hsw : swapsWith (.ListComp elt [⟨tg, iter, ifs, 0⟩] scope pos) (some (.Name y py)) spos.line X.env = pure true) (hs : PFI X F tg iter fs) (ok : BlkOk X.N X.env.scope scope own) (hv : own.map (·.2) = vs) (hsub : p.sub vs = true)
    (hg : ∀ (s : Shared) (H : Hp) (C : Addr) (cl : List (Str × Addr)) (fp : List Addr), PFG (X.blk s H scope (compEnvC scope cl C X.env) fp) tg p) (ht : ∀ (s : Shared) (H : Hp) (C : Addr) (cl : List (Str × Addr)) (fp : List Addr), PFTs (X.blk s H scope (compEnvC scope cl C X.env) fp) F ifs ft)
    (he : ∀ (s : Shared) (H : Hp) (C : Addr) (cl : List (Str × Addr)) (fp : List Addr), PF (X.blk s H scope (compEnvC scope cl C X.env) fp) F elt fe) (hK : X.K = F.K.K := by rfl) (hfo : ∀ x, foldedSetIterable iter X.env x = pure x := by intro _; rfl) :
    PFS X F (.Assign [.Name y py] (.ListComp elt [⟨tg, iter, ifs, 0⟩] scope pos) spos) (sSetX i (fXlc fs p vs ft fe)) := by
  subst hv
  refine ⟨fun Z tk => ps_to (ps_setLc (own := own) (g := gOf X.K p) hc hN hy hyl hsw (hs.pi Z tk) ok (fun s H C cl fp => (hg s H C cl fp).pg) (fun s H C cl fp => (ht s H C cl fp).pts _ lk0) (fun s H C cl fp => (he s H C cl fp).pe _ lk0) hfo) fun D σ H ⟨M, δ, n, ok, q⟩ => ?_⟩
  refine lcx_run hsub hK σ H _ (goX ok ((T.wp_mapEx _ _).mp ((T.wp_bind _ _).mp q)) fun w n1 v M' H1 q1 x1 s1 ok1 => ?_)
  exact q1 M' _ H1 ((x1.put ok ok1).set ok1)
end
end FL

/-! is, is not of truth values. -/
namespace FL
open PySem PySem.Spec PyProof.Rows L2 Gd Fx Stp LamX Lm
def dIsNot2 : D → D → Option D
  | .bool a, .bool b => some (.bool (!decide (a = b)))
  | x, y => dIsNot x y
def dIs2 : D → D → Option D
  | .bool a, .bool b => some (.bool (decide (a = b)))
  | x, y => dIs x y
@[simp] theorem dIsNot2_b (a b : Bool) : dIsNot2 (.bool a) (.bool b) = some (.bool (!decide (a = b))) := rfl
@[simp] theorem dIs2_b (a b : Bool) : dIs2 (.bool a) (.bool b) = some (.bool (decide (a = b))) := rfl
section
variable {X : Cx} {K : Kx}
theorem od_isnot2 : OpF X K (compareOp .IsNot) dIsNot2 := fun hK => by
  obtain ⟨r, h1, h2⟩ := od_isnot (X := X) (K := K) hK
  refine ⟨_, opR_or h1 op_isnot_bl, fun M H v u a b c Q fr ha hb e q => ?_⟩
  by_cases hs : ∃ x y, a = .bool x ∧ b = .bool y
  · obtain ⟨x, y, rfl, rfl⟩ := hs
    cases e
    exact .inr ⟨x, y, ha.bool, hb.bool, q _ H (Same.refl _) (.bl _)⟩
  · refine .inl (h2 M H v u a b c Q fr ha hb ?_ q)
    rw [← e]
    cases a <;> first | rfl | (cases b <;> first | rfl | exact absurd ⟨_, _, rfl, rfl⟩ hs)
theorem od_is2 : OpF X K (compareOp .Is) dIs2 := fun hK => by
  obtain ⟨r, h1, h2⟩ := od_is (X := X) (K := K) hK
  refine ⟨_, opR_or h1 op_is_bl, fun M H v u a b c Q fr ha hb e q => ?_⟩
  by_cases hs : ∃ x y, a = .bool x ∧ b = .bool y
  · obtain ⟨x, y, rfl, rfl⟩ := hs
    cases e
    exact .inr ⟨x, y, ha.bool, hb.bool, q _ H (Same.refl _) (.bl _)⟩
  · refine .inl (h2 M H v u a b c Q fr ha hb ?_ q)
    rw [← e]
    cases a <;> first | rfl | (cases b <;> first | rfl | exact absurd ⟨_, _, rfl, rfl⟩ hs)
end
end FL

/-! raise C(e, f): two fields kept. -/
namespace FL
open PySem PySem.Spec PyProof.Rows L2 Gd Fx Stp TryA LamX Lm
def sRaise2 (c : Nat) (fld fld2 : Str) (f g : FE) : FS := fun δ => (lft δ (f δ)).bind fun w => (lft δ (g δ)).bind fun u => (lft δ w.dat).bind fun y => (lft δ u.dat).bind fun z => .ex (⟨c, [(fld2, z), (fld, y)]⟩, δ)
@[simp] theorem sRaise2_def (c : Nat) (fld fld2 : Str) (f g : FE) (δ : Sl) : sRaise2 c fld fld2 f g δ = (lft δ (f δ)).bind fun w => (lft δ (g δ)).bind fun u => (lft δ w.dat).bind fun y => (lft δ u.dat).bind fun z => .ex (⟨c, [(fld2, z), (fld, y)]⟩, δ) := rfl
section
variable {X : Cx} {F : Fc} {k c : Nat} {C Dc fI : Addr} {fd : FuncData} {ps : List Str} {x fld fld2 : Str} {e e2 : Expr} {f g : FE} {p cpos pos : Pos}
theorem pfs_raise2 (hc : X.calm = true) (hC : F.K.ct c = C) (TX : XC X.K C Dc fI) (n1 : PySem.W.findIn X.K (.ref C) fld = some none) (n2 : PySem.W.findIn X.K (.ref C) fld2 = some none) (tI : PySem.W.typeIn X.K (.ref fI) = some (.type "function"))
    (F1 : FnOk X.prog X.w X.K X.mg X.base CX0 k fI fd ps (spInit2 X.K Dc fI fld fld2)) (hr : Room (k + 1) X.A) (hb : L2.Binds X.K fd ps []) (hg : Gl X x) (hm : X.mg x = some (.ref C)) (ha : PF X F e f) (hb2 : PF X F e2 g) (hK : X.K = F.K.K := by rfl)
    (hdb : (x == ("__debug__" : Str)) = false := by decide) (he : starEach [e, e2] X.env = (false, eval e X.env) :: starEach [e2] X.env := by rfl) (he2 : starEach [e2] X.env = (false, eval e2 X.env) :: starEach [] X.env := by rfl) (hpl : (backTo cpos (starEach [e2] X.env)).any (·.1) = false := by rfl) :
    PFS X F (.Raise (some (.Call (.Name x p) [e, e2] [] cpos)) none pos) (sRaise2 c fld fld2 f g) := by
  refine ⟨fun Z tk => ps_to (L2.ps_raise hc tk (pmk_oex TX.toOexC TX.iC tI F1 hr hb .nil pass0 hg hm (pa_cons (ha.pe Z tk) (pa_cons (hb2.pe Z tk) pa_nil he2) he) hdb he hpl)) fun De σ H ⟨M, δ, n, ok, q⟩ => lftE ok ((T.wp_bind _ _).mp q) fun w n1' v H1 q1 s1 ok1 v1 => lftE ok1 ((T.wp_bind _ _).mp q1) fun u n2' v' H2' q2 s2 ok2 v2 => ?_⟩
  obtain ⟨y, rfl, hv, q3⟩ := lft_dat (v1.kp s2) ((T.wp_bind _ _).mp q2)
  obtain ⟨t, rfl, hv2, z⟩ := lft_dat v2 ((T.wp_bind _ _).mp q3)
  refine ⟨by show 2 ≤ 1000; decide, fun a na => ⟨a, C, v, v', rfl, TX, n1, n2, upd_same, fun d H2 M2 => ⟨rfl, ?_⟩⟩⟩
  obtain ⟨m1, m2, m3, m4, m5⟩ := M2
  have hd1 : H2' d = none := by
    rw [upd_ne m2] at m1
    exact m1
  refine ⟨d, _, m3, m4, hd1, ?_⟩
  have s : Same H2' (upd (del H2 a) d (.xd [(fld2, v'), (fld, v)])) := fun b o e => by
    have nb : b ≠ a := ne_of_none e na
    have nd : b ≠ d := ne_of_none e hd1
    rw [upd_ne nd, del_ne nb, m5 b nb nd, upd_ne nb]
    exact e
  exact ⟨M, δ, n2', ⟨c, [(fld2, t), (fld, y)]⟩, ok2.same s, ⟨by rw [hC], .inr ⟨d, [v', v], rfl, hid_mk (ok2.fresh hd1) upd_same, .cons (DV.same (hid_same s) hv2) (.cons (DV.same (hid_same s) hv) .nil)⟩⟩, z⟩
end
end FL

/-! Dict comprehensions; stores into dicts. -/
namespace FL
open PySem PySem.Spec PyProof.Rows L2 Gd Fx Stp LamX Lm
def dPutK (es : List (D × D)) (k : Key) (v : D) : List (D × D) := if (es.any fun p => decide (toKey p.1 = some k)) = true then es.map (fun p => if toKey p.1 = some k then (p.1, v) else p) else es ++ [(keyD k, v)]
section
variable {K : Kx} {G : Hp}
theorem DVk.anyK {k : Key} : ∀ {kvs : List (Key × V)} {es : List (D × D)}, DVk K G kvs es → (kvs.any fun kv => decide (kv.1 = k)) = es.any fun p => decide (toKey p.1 = some k)
  | _, _, .nil => rfl
  | (j, v) :: kvs, (_, d) :: es, .cons h t => by
    rw [List.any_cons, List.any_cons, t.anyK, toKey_keyD]
    congr 1
    exact decide_eq_decide.mpr ⟨fun z => congrArg some z, fun z => Option.some.inj z⟩
theorem DVk.mapK {k : Key} {v : V} {d : D} (hv : DV K G v d) : ∀ {kvs : List (Key × V)} {es : List (D × D)}, DVk K G kvs es → DVk K G (kvs.map fun kv => if kv.1 = k then (kv.1, v) else kv) (es.map fun p => if toKey p.1 = some k then (p.1, d) else p)
  | _, _, .nil => .nil
  | (j, u) :: kvs, (_, e) :: es, .cons h t => by
    rw [List.map_cons, List.map_cons, toKey_keyD]
    by_cases z : j = k
    · rw [if_pos z, if_pos (congrArg some z)]
      exact .cons hv (t.mapK hv)
    · rw [if_neg z, if_neg fun q => z (Option.some.inj q)]
      exact .cons h (t.mapK hv)
theorem DVk.snoc {k : Key} {v : V} {d : D} (hv : DV K G v d) : ∀ {kvs : List (Key × V)} {es : List (D × D)}, DVk K G kvs es → DVk K G (kvs ++ [(k, v)]) (es ++ [(keyD k, d)])
  | _, _, .nil => .cons hv .nil
  | _, _, .cons h t => .cons h (t.snoc hv)
theorem DVk.put {k : Key} {v : V} {d : D} {kvs : List (Key × V)} {es : List (D × D)} (h : DVk K G kvs es) (hv : DV K G v d) : DVk K G (putK kvs k v) (dPutK es k d) := by
  unfold putK dPutK
  rw [h.anyK]
  split
  · exact h.mapK hv
  · exact h.snoc hv
end
theorem dPutK_len (es : List (D × D)) (k : Key) (v : D) : (dPutK es k v).length ≤ es.length + 1 := by
  unfold dPutK
  split
  · rw [List.length_map]; omega
  · rw [List.length_append]; exact Nat.le_refl _
/-- for each item: the test, then key and value -/
def dictL (tg : Tg) (δ : Sl) (ft : FT) (fk fe : FE) : List D → List (D × D) → R (List (D × D))
  | [], acc => .ret acc
  | x :: xs, acc => (T.of (putT tg δ x)).bind fun δ1 => (ft δ1).bind fun c => if c = true then (fk δ1).bind fun w => w.rd.bind fun y => (T.of (toKey y)).bind fun k => (fe δ1).bind fun z => z.dat.bind fun d => dictL tg δ ft fk fe xs (dPutK acc k d) else dictL tg δ ft fk fe xs acc
def fDc (fs : FI) (tg : Tg) (vs : List Nat) (ft : FT) (fk fe : FE) : FE := fun δ => if noOwns δ vs = true then (fs δ).bind fun xs => if xs.length ≤ 1000000 then ((dictL tg (wipeD δ vs) ft fk fe xs []).noex).bind fun es => .ret (.d (.dict es)) else .bad else .bad
@[simp] theorem fDc_def (fs : FI) (tg : Tg) (vs : List Nat) (ft : FT) (fk fe : FE) (δ : Sl) : fDc fs tg vs ft fk fe δ = if noOwns δ vs = true then (fs δ).bind fun xs => if xs.length ≤ 1000000 then ((dictL tg (wipeD δ vs) ft fk fe xs []).noex).bind fun es => .ret (.d (.dict es)) else .bad else .bad := rfl
theorem wp_dictL {tg : Tg} {δ : Sl} {ft : FT} {fk fe : FE} {x : D} {xs : List D} {acc : List (D × D)} {n : Nat} {Q : List (D × D) → Nat → Prop} {Z : Xn → Nat → Prop} (q : (dictL tg δ ft fk fe (x :: xs) acc).wp n Q Z) : ∃ δ1, putT tg δ x = some δ1 ∧ (ft δ1).wp n (fun c n1 => if c = true then (fk δ1).wp n1 (fun w n2 => (w.rd.bind fun y => (T.of (toKey y)).bind fun k => (fe δ1).bind fun z => z.dat.bind fun d => dictL tg δ ft fk fe xs (dPutK acc k d)).wp n2 Q Z) Z else (dictL tg δ ft fk fe xs acc).wp n1 Q Z) Z := by
  obtain ⟨δ1, e, q1⟩ := T.wp_of.mp ((T.wp_bind _ _).mp q)
  refine ⟨δ1, e, T.wp_mono (fun c n1 q2 => iteMono (fun q3 => ?_) (fun q3 => q3) (wp_ite.mp q2)) (fun _ _ z => z) _ _ ((T.wp_bind _ _).mp q1)⟩
  exact (T.wp_bind _ _).mp q3
section
variable {X : Cx} {F : Fc} {fs : FI} {ft : FT} {fk fe : FE} {p : Tg} {vs : List Nat} {kx elt iter tg : Expr} {ifs : List Expr} {scope : Scope} {pos : Pos}
theorem dc_run {Z : ZF} (hsub : p.sub vs = true) (hK : X.K = F.K.K) :
    ∀ σ H Q, tE F Z (fDc fs p vs ft fk fe) σ H Q → tDc (tI F Z fs) (gOf X.K p) (tT F (fun _ _ _ => False) ft) (tE F (fun _ _ _ => False) fk) (tE F (fun _ _ _ => False) fe) vs σ H Q := fun σ H Q ⟨M, δ, n, ok, q0⟩ => by
  obtain ⟨hno, q⟩ := wp_if q0
  refine ⟨M, δ, n, ok, T.wp_mono (fun xs n1 q1 J H1 s1 ok1 src => ?_) (fun _ _ z => z) _ _ ((T.wp_bind _ _).mp q)⟩
  obtain ⟨hl, q1⟩ := wp_if q1
  have q2 := (T.wp_noex _ _).mp ((T.wp_bind _ _).mp q1)
  intro Dd hD
  obtain ⟨okD, sD⟩ := ok1.add (p := Dd) (o := .dK []) hD (same1 hD) upd_same
  have okW := okD.wipe vs
  have hDM : Dd ∉ M := ok1.fresh hD
  have hD0 : Dd ∉ F.M0 := fun z => hDM (ok1.sub Dd z)
  have hDw : ∀ q, F.wl = some q → Dd ≠ q.1 := fun q e z => hD0 (by rw [z]; exact (ok1.wel q e).1)
  have hDs : ∀ (j : Nat) (y : D), (wipeD δ vs)[j]? = some (some (S.own y)) → (L2.wipe σ vs)[j]? ≠ some (some (V.ref Dd)) := fun j y e e2 => by
    have e2' := (wipe_some e2).1
    obtain ⟨p, o, g1, g2, _⟩ := ok1.own j y (wipeD_at e)
    rw [e2'] at g1
    cases g1
    exact hDM g2
  let Qe : List (D × D) → Nat → Prop := fun es n2 => ∀ v H', Kp F M H H' → Ok F M σ H' δ n2 → VOk F M H' v (.d (.dict es)) → Q v H'
  let St : Nat → Hp → Prop := fun j H2 => ∃ (acc : List (D × D)) (n2 : Nat) (vl : List (Key × V)), Ok F (Dd :: M) (L2.wipe σ vs) H2 (wipeD δ vs) n2 ∧ H2 Dd = some (.dK vl) ∧ DVk F.K (hid (Dd :: M) H2) vl acc ∧ acc.length ≤ j ∧ Same (hid M H1) (hid (Dd :: M) H2) ∧ (∀ p ∈ M, (∀ q, F.wl = some q → p ≠ q.1) → ∀ o, (∀ ps, o ≠ HO.tbl ps) → H1 p = some o → H2 p = some o) ∧
    (dictL p (wipeD δ vs) ft fk fe (xs.drop j) acc).wp n2 (fun ys n3 => Qe ys n3) (fun _ _ => False)
  refine ⟨fun j m H2 => m = xs.length - j ∧ j ≤ xs.length ∧ St j H2, ⟨_, rfl, Nat.zero_le _, [], n1, [], okW, upd_same, .nil, Nat.le_refl _, sD, fun p hp _ o _ e => same1 hD _ _ e, q2⟩, ?_⟩
  rintro j m H2 ⟨rfl, hj, acc, n2, vl, ok2, e2, v2, hacc, se, sf, q3⟩
  by_cases hlt : j < xs.length
  · refine .inr ⟨src.goes j _ H2 hlt se, St (j + 1), fun H' st => ⟨xs.length - (j + 1), by omega, rfl, hlt, st⟩, fun y H' yl => ?_⟩
    obtain ⟨s3, d, e1, d1⟩ := src.yields j _ H2 y H' hlt se (fun p hp => ok2.fresh hp) yl
    have ed : xs.drop j = d :: xs.drop (j + 1) := by
      rw [List.drop_eq_getElem_cons hlt]
      rw [List.getElem?_eq_getElem hlt] at e1
      rw [Option.some.inj e1]
    rw [ed] at q3
    obtain ⟨δ1, e3, q4⟩ := wp_dictL q3
    have hww : ∀ {E : L2.St → Hp → Prop}, gOf X.K p y (L2.wipe σ vs) H' E → gOf X.K p y (L2.wipe σ vs) H' fun σ2 H2 => L2.wipe σ2 vs = L2.wipe σ vs ∧ E σ2 H2 := fun h => by
      have := gOf_keep hsub h
      rw [wipe_wipe σ vs vs fun _ z => z] at this
      exact this
    have key : ∀ H4, Kp F (Dd :: M) H' H4 → ∀ n4 {σ2 : L2.St}, Ok F (Dd :: M) σ2 H4 δ1 n4 → Ok F (Dd :: M) (L2.wipe σ vs) H4 (wipeD δ vs) n4 := fun H4 kp n4 σ2 ok4 => by
      refine (ok2.same s3).back kp ok4.tab.1 ok4.al fun q eq => (ok4.wel q eq).2
    have e2' : H' Dd = some (.dK vl) := s3 _ _ e2
    have ntl : ∀ ps, HO.dK vl ≠ HO.tbl ps := fun ps z => by cases z
    refine hww (gOf_run hK (ok2.same s3) d1 e3 fun σ2 okT => ?_)
    refine goT okT q4 fun c n3 H3 q5 s4 ok4 => iteMono (fun q6 => ?_) (fun q6 => ?_) q5
    · refine goE ok4 q6 fun w n4 v H4 q7 s5 ok5 v5 => ?_
      obtain ⟨yk, hk, q8⟩ := rv_rd v5 ((T.wp_bind _ _).mp q7)
      obtain ⟨k, ek, q9⟩ := T.wp_of.mp ((T.wp_bind _ _).mp q8)
      refine goE ok5 ((T.wp_bind _ _).mp q9) fun w2 n5 v2' H5 q10 s6 ok6 v6 => ?_
      obtain ⟨x, rfl, hv, q11⟩ := dv_dat v6 ((T.wp_bind _ _).mp q10)
      have kp := (s4.trans s5).trans s6
      have okB := key H5 kp n5 ok6
      have sD : Same (hid (Dd :: M) H2) (hid (Dd :: M) H5) := (hid_same s3).trans kp.s
      have e4 : H5 Dd = some (.dK vl) := kp.f _ (List.mem_cons_self ..) hDw _ ntl e2'
      have hpk : hid (Dd :: M) (upd H5 Dd (.dK (putK vl k v2'))) = hid (Dd :: M) H5 := hid_poke (List.mem_cons_self ..)
      refine ⟨vl, k, hk.key ek, e4, by rw [v2.length]; exact Nat.lt_of_le_of_lt hacc (Nat.lt_of_lt_of_le (Nat.lt_of_lt_of_le hlt hl) (by decide)), dPutK acc k x, n5, putK vl k v2', okB.poke (List.mem_cons_self ..) hD0 e4 (.dic (v2.same sD)) hDs, upd_same, ?_, Nat.le_trans (dPutK_len ..) (Nat.succ_le_succ hacc), ?_, fun p hp hw o ho e => ?_, q11⟩
      · rw [hpk]
        exact (v2.same sD).put hv
      · rw [hpk]
        exact se.trans sD
      · rw [upd_ne fun z => hDM (by rw [← z]; exact hp)]
        exact kp.f p (List.mem_cons_of_mem _ hp) hw o ho (s3 _ _ (sf p hp hw o ho e))
    · have sD : Same (hid (Dd :: M) H2) (hid (Dd :: M) H3) := (hid_same s3).trans s4.s
      exact ⟨acc, n3, vl, key H3 s4 n3 ok4, s4.f _ (List.mem_cons_self ..) hDw _ ntl e2', v2.same sD, Nat.le_succ_of_le hacc, se.trans sD, fun p hp hw o ho e => s4.f p (List.mem_cons_of_mem _ hp) hw o ho (s3 _ _ (sf p hp hw o ho e)), q6⟩
  · have ej : j = xs.length := by omega
    subst ej
    rw [List.drop_length] at q3
    have sM : Same (hid M H1) (hid M H2) := se.trans (hid_sub fun p hp => List.mem_cons_of_mem _ hp)
    have kM : Kp F M H1 H2 := ⟨sM, sf⟩
    have q4 : Qe acc n2 := q3
    exact .inl ⟨src.stops _ H2 se, q4 (.ref Dd) H2 (s1.trans kM) (ok1.unlc ok2 kM) (.dic (hid_mk hDM e2) (v2.same (hid_sub fun p hp => List.mem_cons_of_mem _ hp)))⟩
theorem pf_dc {own : List (Str × Nat)} (hc : X.calm = true) (hN : X.N.Nodup) (hs : PFI X F tg iter fs) (ok : BlkOk X.N X.env.scope scope own) (hv : own.map (·.2) = vs) (hsub : p.sub vs = true)
    (hg : ∀ (s : Shared) (H : Hp) (C : Addr) (cl : List (Str × Addr)) (fp : List Addr), PFG (X.blk s H scope (compEnvC scope cl C X.env) fp) tg p) (ht : ∀ (s : Shared) (H : Hp) (C : Addr) (cl : List (Str × Addr)) (fp : List Addr), PFTs (X.blk s H scope (compEnvC scope cl C X.env) fp) F ifs ft)
    (hk : ∀ (s : Shared) (H : Hp) (C : Addr) (cl : List (Str × Addr)) (fp : List Addr), PF (X.blk s H scope (compEnvC scope cl C X.env) fp) F kx fk)
    (he : ∀ (s : Shared) (H : Hp) (C : Addr) (cl : List (Str × Addr)) (fp : List Addr), PF (X.blk s H scope (compEnvC scope cl C X.env) fp) F elt fe) (hK : X.K = F.K.K := by rfl) (hfo : ∀ x, foldedSetIterable iter X.env x = pure x := by intro _; rfl) :
    PF X F (.DictComp kx elt [⟨tg, iter, ifs, 0⟩] scope pos) (fDc fs p vs ft fk fe) := by
  subst hv
  exact ⟨fun Z tk => pe_to (pe_dc (own := own) (g := gOf X.K p) hc hN (hs.pi Z tk) ok (fun s H C cl fp => (hg s H C cl fp).pg) (fun s H C cl fp => (ht s H C cl fp).pts _ lk0) (fun s H C cl fp => (hk s H C cl fp).pe _ lk0) (fun s H C cl fp => (he s H C cl fp).pe _ lk0) hfo) (dc_run hsub hK)⟩
end
end FL

/-! The bundle of an exception class of two fields. -/
namespace FL
open PySem PySem.Spec PyProof.Rows L2 Gd Fx Stp LamX Lm
structure ExcF2 (P : Program) (w : World) (K : Kx) (mg : Str → Option Value) (base : Heap) (c : Nat) (x fld fld2 : Str) : Prop where
  g : mg x = some (.ref (K.ct c))
  ex : ∃ (Dc fI : Addr) (fd : FuncData) (ps : List Str), XC K.K (K.ct c) Dc fI ∧ PySem.W.findIn K.K (.ref (K.ct c)) fld = some none ∧ PySem.W.findIn K.K (.ref (K.ct c)) fld2 = some none ∧ PySem.W.typeIn K.K (.ref fI) = some (.type "function") ∧ FnOk P w K.K mg base CX0 1 fI fd ps (spInit2 K.K Dc fI fld fld2) ∧ L2.Binds K.K fd ps []
section
variable {X : Cx} {F : Fc} {k c : Nat} {x fld fld2 : Str} {e e2 : Expr} {f g : FE} {p cpos pos : Pos}
theorem pfs_raiseF2 (hc : X.calm = true) (EX : ExcF2 X.prog X.w F.K X.mg X.base c x fld fld2) (hr : RoomG k X.A) (hk : 2 ≤ k) (hg : Gl X x) (ha : PF X F e f) (hb : PF X F e2 g) (hK : X.K = F.K.K := by rfl)
    (hdb : (x == ("__debug__" : Str)) = false := by decide) (he : starEach [e, e2] X.env = (false, eval e X.env) :: starEach [e2] X.env := by rfl) (he2 : starEach [e2] X.env = (false, eval e2 X.env) :: starEach [] X.env := by rfl) (hpl : (backTo cpos (starEach [e2] X.env)).any (·.1) = false := by rfl) :
    PFS X F (.Raise (some (.Call (.Name x p) [e, e2] [] cpos)) none pos) (sRaise2 c fld fld2 f g) := by
  obtain ⟨Dc, fI, fd, ps, h1, h2, h3, h4, h5, h6⟩ := EX.ex
  rw [← hK] at h1 h2 h3 h4 h5 h6
  exact pfs_raise2 hc rfl h1 h2 h3 h4 h5 (hr.toRoom.mono hk) h6 hg EX.g ha hb hK hdb he he2 hpl
end
end FL

/-! x = [.. for .. for ..] on one row. -/
namespace FL
open PySem PySem.Spec PyProof.Rows L2 Gd Fx Stp LamX Lm
section
variable {X : Cx} {F : Fc} {fs fs1 : FI} {ft ft1 : FT} {fe : FE} {p p1 : Tg} {vs vs1 : List Nat} {elt iter tg iter1 tg1 : Expr} {ifs ifs1 : List Expr} {scope : Scope} {pos : Pos} (B : Nat)
theorem pfs_setLc2 {i : Nat} {y : Str} {py spos : Pos} {own : List (Str × Nat)} (hc : X.calm = true) (hN : X.N.Nodup) (hy : X.N[i]? = some y) (hyl : X.env.scope.names.lookup y = some .local)
    (hsw : swapsWith (.ListComp elt [⟨tg, iter, ifs, 0⟩, ⟨tg1, iter1, ifs1, 0⟩] scope pos) (some (.Name y py)) spos.line X.env = pure true)
    (hs : PFI X F tg iter fs) (ok : BlkOk X.N X.env.scope scope own) (hv : own.map (·.2) = vs) (hv1 : (vs1.all fun i => (own.map (·.2)).contains i) = true) (hsub : p.sub vs = true) (hsub1 : p1.sub vs1 = true)
    (hg : ∀ (s : Shared) (H : Hp) (C : Addr) (cl : List (Str × Addr)) (fp : List Addr), PFG (X.blk s H scope (compEnvC scope cl C X.env) fp) tg p) (ht : ∀ (s : Shared) (H : Hp) (C : Addr) (cl : List (Str × Addr)) (fp : List Addr), PFTs (X.blk s H scope (compEnvC scope cl C X.env) fp) F ifs ft)
    (hi1 : ∀ (s : Shared) (H : Hp) (C : Addr) (cl : List (Str × Addr)) (fp : List Addr), PFI (X.blk s H scope (compEnvC scope cl C X.env) fp) F tg1 iter1 fs1) (hg1 : ∀ (s : Shared) (H : Hp) (C : Addr) (cl : List (Str × Addr)) (fp : List Addr), PFG (X.blk s H scope (compEnvC scope cl C X.env) fp) tg1 p1)
    (ht1 : ∀ (s : Shared) (H : Hp) (C : Addr) (cl : List (Str × Addr)) (fp : List Addr), PFTs (X.blk s H scope (compEnvC scope cl C X.env) fp) F ifs1 ft1) (he : ∀ (s : Shared) (H : Hp) (C : Addr) (cl : List (Str × Addr)) (fp : List Addr), PF (X.blk s H scope (compEnvC scope cl C X.env) fp) F elt fe)
    (hK : X.K = F.K.K := by rfl) (hfo : ∀ x, foldedSetIterable iter X.env x = pure x := by intro _; rfl) (hfo1 : ∀ env x, foldedSetIterable iter1 env x = pure x := by intro _ _; rfl) :
    PFS X F (.Assign [.Name y py] (.ListComp elt [⟨tg, iter, ifs, 0⟩, ⟨tg1, iter1, ifs1, 0⟩] scope pos) spos) (sSet i (fLc2 B fs p vs ft fs1 p1 vs1 ft1 fe)) := by
  subst hv
  refine ⟨fun Z tk => ps_to (ps_setLc2 (own := own) (g := gOf X.K p) (g1 := gOf X.K p1) hc hN hy hyl hsw (hs.pi Z tk) ok (fun i hi => by simpa using List.all_eq_true.mp hv1 i hi) (fun s H C cl fp => (hg s H C cl fp).pg) (fun s H C cl fp => (ht s H C cl fp).pts _ lk0) (fun s H C cl fp => (hi1 s H C cl fp).pi _ lk0) (fun s H C cl fp => (hg1 s H C cl fp).pg) (fun s H C cl fp => (ht1 s H C cl fp).pts _ lk0) (fun s H C cl fp => (he s H C cl fp).pe _ lk0) hfo hfo1) fun D σ H ⟨M, δ, n, ok, q⟩ => ?_⟩
  refine lc2_run hsub hsub1 hK σ H _ (lftE ok ((T.wp_bind _ _).mp q) fun w n1 v H1 q1 s1 ok1 v1 => ?_)
  obtain ⟨x, rfl, hv, q2⟩ := lft_dat v1 ((T.wp_bind _ _).mp q1)
  exact q2 M _ H1 (ok1.set (w := .d x) hv fun _ => nol_d)
end
end FL

/-! Defs that many laws share, the numbers of the classes open. -/
namespace Cm
open PySem PySem.Spec FL
def b_led_from : FS := (sSeq (sParX 2 3 (fXlist2 (fVar 0)) (fXd (fC (.int 0)))) (sSeq (sWhile (fVal (fOp dLt (fVar 3) (fCB rDicts (fCons (fVar 2) fNil)))) (sSeq (sExt 2 (fLc (fIt (fVar 1)) (.one 4) [4] (fAnd (fVal (fOp dEq (fOp dIx (fVar 4) (fC (.int 0))) (fOp dIx (fVar 2) (fVar 3)))) (fVal (fOp dNotIn2 (fOp dIx (fVar 4) (fC (.int 1))) (fVar 2)))) (fOp dIx (fVar 4) (fC (.int 1))))) (sAug 3 (augI fun a b => a + b) (fC (.int 1))))) (sFrz 2 (sRet (fVar 2)))))
def f_led_from : FFn := mk 5 2 (b_led_from)
def b_ascends : FS := (sRet (fCB gAll (fCons (fLc (fZip (fCons (fVar 0) (fCons (fSlice (fVar 0) (oPart (fC (.int 1))) oNo) fNil))) (.many [1, 2]) [1, 2] fYes (fOp dLt (fVar 1) (fVar 2))) fNil)))
def f_ascends : FFn := mk 3 1 (b_ascends)
def b_are_letters : FS := (sRet (fAndV (fIsi (some "str") [] (fVar 0)) (fAndV (fCB gAll (fCons (fLc (fIt (fVar 0)) (.one 1) [1] fYes (fOp dIn2 (fVar 1) (fC (.str "abcdefghijklmnopqrstuvwxyz")))) fNil)) (fCall f_ascends (fCons (fVar 0) fNil)))))
def f_are_letters : FFn := mk 2 1 (b_are_letters)
def b_is_row : FS := (sRet (fIsi2 (fVar 0)))
def f_is_row : FFn := mk 1 1 (b_is_row)
def b_are_pairs : FS := (sSeq (sIf (fOr (fNot (fVal (fCall f_is_row (fCons (fVar 0) fNil)))) (fNot (fVal (fCB gAll (fCons (fLc (fIt (fVar 0)) (.one 1) [1] fYes (fAndV (fIsi (some "str") [] (fVar 1)) (fOp dEq (fCB rDicts (fCons (fVar 1) fNil)) (fC (.int 2))))) fNil))))) (sRet (fC (.bool false))) sNext) (sRet (fAndV (fCB gAll (fCons (fLc2 1000 (fIt (fVar 0)) (.one 1) [1, 2] fYes (fIt (fVar 1)) (.one 2) [2] fYes (fOp dIn2 (fVar 2) (fC (.str "abcdefghijklmnopqrstuvwxyz")))) fNil)) (fCall f_ascends (fCons (fVar 0) fNil)))))
def f_are_pairs : FFn := mk 3 1 (b_are_pairs)
def b_is_integer : FS := (sRet (fAndV (fIsi (some "int") [] (fVar 0)) (fNotV (fIsi (some "bool") [] (fVar 0)))))
def f_is_integer : FFn := mk 1 1 (b_is_integer)
def b_is_within : FS := (sRet (fAndV (fCall f_is_integer (fCons (fVar 0) fNil)) (fChn dLe dLe (fVar 1) (fVar 0) (fVar 2))))
def f_is_within : FFn := mk 3 3 (b_is_within)
def b_Manner_init (c e : Nat) : FS := (sSeq (sIf (fNot (fVal (fCall f_are_letters (fCons (fVar 1) fNil)))) (sRaise1 e "part" (fC (.str "firsts"))) sNext) (sSeq (sIf (fNot (fVal (fCall f_are_pairs (fCons (fVar 2) fNil)))) (sRaise1 e "part" (fC (.str "follows"))) sNext) (sSeq (sIf (fNot (fVal (fCall f_are_letters (fCons (fVar 3) fNil)))) (sRaise1 e "part" (fC (.str "lasts"))) sNext) (sSeq (sSet 4 (fCall f_led_from (fCons (fVar 1) (fCons (fVar 2) fNil)))) (sSeq (sSet 5 (fCall f_led_from (fCons (fVar 3) (fCons (fLc (fIt (fVar 2)) (.one 6) [6] fYes (fRev (fVar 6))) fNil)))) (sSeq (sAt [c] "letters" 0 (fJoin (fC (.str "")) (fCB gSorted (fCons (fLc (fIt (fVar 4)) (.one 7) [7] (fVal (fOp dIn2 (fVar 7) (fVar 5))) (fVar 7)) fNil)))) (sSeq (sIf (fVal (fOp dEq (fAt [c] "letters" (fVar 0)) (fC (.str "")))) (sRaise1 e "part" (fC (.str "lasts"))) sNext) (sSeq (sAt [c] "firsts" 0 (fVar 1)) (sSeq (sAt [c] "follows" 0 (fCB gTuple (fCons (fVar 2) fNil))) (sSeq (sAt [c] "lasts" 0 (fVar 3)) (sSeq (sAt [c] "begins" 0 (fLc (fIt (fVar 1)) (.one 7) [7] (fVal (fOp dIn2 (fVar 7) (fAt [c] "letters" (fVar 0)))) (fVar 7))) (sSeq (sAt [c] "ends" 0 (fLc (fIt (fVar 3)) (.one 7) [7] (fVal (fOp dIn2 (fVar 7) (fAt [c] "letters" (fVar 0)))) (fVar 7))) (sAt [c] "pairs" 0 (fLc (fIt (fAt [c] "follows" (fVar 0))) (.one 6) [6] (fAnd (fVal (fOp dIn2 (fOp dIx (fVar 6) (fC (.int 0))) (fAt [c] "letters" (fVar 0)))) (fVal (fOp dIn2 (fOp dIx (fVar 6) (fC (.int 1))) (fAt [c] "letters" (fVar 0))))) (fVar 6)))))))))))))))
def f_Manner_init (c e : Nat) : FFn := mkI 8 3 c (b_Manner_init c e)
def b_Manner_next_to (c : Nat) : FS := (sRet (fLc (fIt (fAt [c] "pairs" (fVar 0))) (.one 2) [2] (fVal (fOp dEq (fOp dIx (fVar 2) (fC (.int 0))) (fVar 1))) (fOp dIx (fVar 2) (fC (.int 1)))))
def f_Manner_next_to (c : Nat) : FFn := mk 3 2 (b_Manner_next_to c)
def b_Manner_texts (c bn tm : Nat) : FS := (sSeq (sIf (fNot (fVal (fCall f_is_within (fCons (fVar 1) (fCons (fC (.int 1)) (fCons (fC (.int 200)) fNil)))))) (sRaise1 bn "part" (fC (.str "many"))) sNext) (sSeq (sSet 2 (fLc (fIt (fAt [c] "begins" (fVar 0))) (.one 4) [4] fYes (fVar 4))) (sSeq (sFor (fRng1 (fOp dSub (fVar 1) (fC (.int 1)))) (.one 3) (sSeq (sSet 2 (fLc2 1000 (fIt (fVar 2)) (.one 5) [5, 4] fYes (fIt (fMethI [c] "next_to" 1 0 [.arg 0, .arg 1] (f_Manner_next_to c) (fVar 0) (fCons (fOp dIx (fVar 5) (fNeg (fC (.int 1)))) fNil) fNil)) (.one 4) [4] fYes (fOp dAdd (fVar 5) (fVar 4)))) (sIf (fVal (fOp dGt (fCB rDicts (fCons (fVar 2) fNil)) (fC (.int 5000)))) (sRaise2 tm "what" "most" (fC (.str "texts")) (fC (.int 5000))) sNext))) (sRet (fCB gTuple (fCons (fLc (fIt (fVar 2)) (.one 5) [5] (fVal (fOp dIn2 (fOp dIx (fVar 5) (fNeg (fC (.int 1)))) (fAt [c] "ends" (fVar 0)))) (fVar 5)) fNil))))))
def f_Manner_texts (c bn tm : Nat) : FFn := mk 6 2 (b_Manner_texts c bn tm)
def b_Manner_has (c : Nat) : FS := (sSeq (sIf (fOr (fNot (fVal (fIsi (some "str") [] (fVar 1)))) (fOr (fVal (fOp dEq (fVar 1) (fC (.str "")))) (fOr (fVal (fOp dNotIn2 (fOp dIx (fVar 1) (fC (.int 0))) (fAt [c] "begins" (fVar 0)))) (fVal (fOp dNotIn2 (fOp dIx (fVar 1) (fNeg (fC (.int 1)))) (fAt [c] "ends" (fVar 0))))))) (sRet (fC (.bool false))) sNext) (sSeq (sSet 2 (fDc (fIt (fAt [c] "pairs" (fVar 0))) (.one 3) [3] fYes (fVar 3) (fC (.bool true)))) (sRet (fCB gAll (fCons (fLc (fRng1 (fOp dSub (fCB rDicts (fCons (fVar 1) fNil)) (fC (.int 1)))) (.one 4) [4] fYes (fOp dIn2 (fSlice (fVar 1) (oPart (fVar 4)) (oPart (fOp dAdd (fVar 4) (fC (.int 2))))) (fVar 2))) fNil)))))
def f_Manner_has (c : Nat) : FFn := mk 5 2 (b_Manner_has c)
def b_pairs : FS := (sRet (fCB gSumL (fCons (fLc (fIt (fVar 0)) (.one 2) [2] fYes (fLc (fIt (fVar 0)) (.one 1) [1] fYes (fOp dAdd (fVar 2) (fVar 1)))) (fCons (fSeq .list fNil) fNil))))
def f_pairs : FFn := mk 3 1 (b_pairs)
def b_plain_manner : FS := (sSeq (sPar 2 3 (fCons (fCall f_one (fCons (fVar 0) (fCons (fVar 1) fNil))) (fCons (fCall f_one (fCons (fVar 0) (fCons (fVar 1) fNil))) fNil))) (sSeq (sSetX 4 (fXlc (fIt (fCall f_pairs (fCons (fVar 1) fNil))) (.one 7) [7] (fVal (fOp dEq (fCall gDraw (fCons (fVar 0) (fCons (fC (.int 2)) fNil))) (fC (.int 0)))) (fVar 7))) (sSeq (sIf (fAnd (fVal (fOp dNe (fVar 2) (fVar 3))) (fVal (fOp dNotIn2 (fOp dAdd (fVar 2) (fVar 3)) (fVar 4)))) (sApp 4 (fOp dAdd (fVar 2) (fVar 3))) sNext) (sFrz 4 (sSeq (sPar 5 6 (fCons (fSset (fOp dAdd (fSeq .list (fCons (fVar 2) fNil)) (fCall f_some (fCons (fVar 0) (fCons (fVar 1) (fCons (fC (.int 3)) fNil)))))) (fCons (fSset (fOp dAdd (fSeq .list (fCons (fVar 3) fNil)) (fCall f_some (fCons (fVar 0) (fCons (fVar 1) (fCons (fC (.int 3)) fNil)))))) fNil))) (sRet (fDisp ["firsts", "follows", "lasts"] (fCons (fJoin (fC (.str "")) (fVar 5)) (fCons (fCB gTuple (fCons (fCB gSorted (fCons (fVar 4) fNil)) fNil)) (fCons (fJoin (fC (.str "")) (fVar 6)) fNil))))))))))
def f_plain_manner : FFn := mk 8 2 (b_plain_manner)
def b_law_manner (c e : Nat) : FS := (sRet (fMake 3 0 [.arg 0, .arg 1, .arg 2] (f_Manner_init c e) (fCons (fOp dIx2 (fVar 0) (fC (.str "firsts"))) (fCons (fOp dIx2 (fVar 0) (fC (.str "follows"))) (fCons (fOp dIx2 (fVar 0) (fC (.str "lasts"))) fNil))) fNil))
def f_law_manner (c e : Nat) : FFn := mk 1 1 (b_law_manner c e)
def b_is_text : FS := (sSeq (sIf (fOr (fVal (fOp dEq (fVar 1) (fC (.str "")))) (fOr (fVal (fOp dNotIn2 (fOp dIx (fVar 1) (fC (.int 0))) (fOp dIx2 (fVar 0) (fC (.str "firsts"))))) (fVal (fOp dNotIn2 (fOp dIx (fVar 1) (fNeg (fC (.int 1)))) (fOp dIx2 (fVar 0) (fC (.str "lasts"))))))) (sRet (fC (.bool false))) sNext) (sRet (fOp dEq (fLc (fRng1 (fOp dSub (fCB rDicts (fCons (fVar 1) fNil)) (fC (.int 1)))) (.one 2) [2] (fVal (fOp dNotIn2 (fSlice (fVar 1) (oPart (fVar 2)) (oPart (fOp dAdd (fVar 2) (fC (.int 2))))) (fOp dIx2 (fVar 0) (fC (.str "follows"))))) (fVar 2)) (fSeq .list fNil))))
def f_is_text : FFn := mk 3 2 (b_is_text)
end Cm

namespace Cm
open PySem PySem.Spec FL
/-! ### what is led to -/
abbrev Pr := Nat × Nat
/-- a pair as a text -/
def pt (p : Pr) : Str := ⟨#[p.1, p.2]⟩
theorem pt_inj {p q : Pr} : pt p = pt q ↔ p = q := by
  constructor
  · intro h
    have : (pt p).cps.toList = (pt q).cps.toList := by rw [h]
    have h2 : [p.1, p.2] = [q.1, q.2] := this
    simp only [List.cons.injEq, and_true] at h2
    exact Prod.ext h2.1 h2.2
  · intro h
    rw [h]
def step (ps : List Pr) (found : List Nat) (x : Nat) : List Nat := (ps.filter fun p => decide (p.1 = x) && !decide (p.2 ∈ found)).map (·.2)
def led (ps : List Pr) : Nat → List Nat → Nat → List Nat
  | 0, found, _ => found
  | k + 1, found, at_ => match found[at_]? with
    | none => found
    | some x => led ps k (found ++ step ps found x) (at_ + 1)
/-- from a sign, each sign that it leads to comes once, ascending -/
def Good (ps : List Pr) : Prop := ∀ x, ((ps.filter fun p => decide (p.1 = x)).map (·.2)).Pairwise (· < ·)
theorem step_eq (ps : List Pr) (found : List Nat) (x : Nat) : step ps found x = ((ps.filter fun p => decide (p.1 = x)).map (·.2)).filter fun c => !decide (c ∈ found) := by
  unfold step
  rw [List.filter_map, List.filter_filter]
  congr 1
  refine List.filter_congr fun p _ => ?_
  show _ = (!decide (p.2 ∈ found) && decide (p.1 = x))
  rw [Bool.and_comm]
theorem step_asc {ps : List Pr} (h : Good ps) (found : List Nat) (x : Nat) : (step ps found x).Pairwise (· < ·) := by
  rw [step_eq]
  exact (h x).filter _
theorem step_new {ps : List Pr} {found : List Nat} {x c : Nat} (h : c ∈ step ps found x) : c ∉ found := by
  rw [step_eq] at h
  simpa using (List.mem_filter.mp h).2
theorem step_sub {ps : List Pr} {found : List Nat} {x c : Nat} (h : c ∈ step ps found x) : ∃ p ∈ ps, p.2 = c := by
  obtain ⟨p, hp, rfl⟩ := List.mem_map.mp h
  exact ⟨p, (List.mem_filter.mp hp).1, rfl⟩
/-- what stays true of what was found -/
structure Fd (ps : List Pr) (U : List Nat) (found : List Nat) : Prop where
  nd : found.Nodup
  sub : ∀ c ∈ found, c ∈ U
theorem Fd.step {ps : List Pr} {U found : List Nat} (h : Fd ps U found) (g : Good ps) (hU : ∀ p ∈ ps, p.2 ∈ U) (x : Nat) : Fd ps U (found ++ step ps found x) :=
  ⟨List.nodup_append.mpr ⟨h.nd, asc_nodup (step_asc g found x), fun a ha b hb e => step_new hb (e ▸ ha)⟩, fun c hc => (List.mem_append.mp hc).elim (h.sub c) fun z => by
    obtain ⟨p, hp, rfl⟩ := step_sub z
    exact hU p hp⟩
theorem Fd.len {ps : List Pr} {U found : List Nat} (h : Fd ps U found) (hn : U.Nodup) : found.length ≤ U.length := h.nd.length_le_of_subset h.sub
theorem led_fd {ps : List Pr} {U : List Nat} (g : Good ps) (hU : ∀ p ∈ ps, p.2 ∈ U) : ∀ (k : Nat) (found : List Nat) (at_ : Nat), Fd ps U found → Fd ps U (led ps k found at_)
  | 0, found, at_, h => h
  | k + 1, found, at_, h => by
    unfold led
    cases found[at_]? with
    | none => exact h
    | some x => exact led_fd g hU k _ _ (h.step g hU x)
/-- what is found first stays -/
theorem led_pre {ps : List Pr} : ∀ (k : Nat) (found : List Nat) (at_ : Nat), ∀ c ∈ found, c ∈ led ps k found at_
  | 0, found, at_, c, h => h
  | k + 1, found, at_, c, h => by
    unfold led
    cases found[at_]? with
    | none => exact h
    | some x => exact led_pre k _ _ c (List.mem_append_left _ h)
/-- a loop that takes such a step each time -/
theorem led_loop {ps : List Pr} {U : List Nat} (g : Good ps) (hn : U.Nodup) (hU : ∀ p ∈ ps, p.2 ∈ U) {c : FT} {b : FS} {mk : List Nat → Nat → Sl} (hc : ∀ found at_, Fd ps U found → c (mk found at_) = .ret (decide (at_ < found.length)))
    (hb : ∀ found at_ x, Fd ps U found → found[at_]? = some x → b (mk found at_) = .ret (.nx (mk (found ++ step ps found x) (at_ + 1)))) :
    ∀ (k : Nat) (found : List Nat) (at_ : Nat), Fd ps U found → at_ ≤ found.length → U.length + 1 ≤ at_ + k → whileN c b k (mk found at_) = .ret (.nx (mk (led ps k found at_) (led ps k found at_).length))
  | 0, found, at_, h, h1, h2 => absurd (h.len hn) (by omega)
  | k + 1, found, at_, h, h1, h2 => by
    rw [whileN_succ, hc _ _ h]
    by_cases hlt : at_ < found.length
    · have ex : found[at_]? = some found[at_] := List.getElem?_eq_getElem hlt
      simp only [lft_def, T.mapEx_ret, T.ret_bind, hlt, decide_true, if_true, hb _ _ _ h ex, oLoop_nx]
      rw [led_loop g hn hU hc hb k _ _ (h.step g hU _) (by rw [List.length_append]; omega) (by omega)]
      rw [show led ps (k + 1) found at_ = led ps k (found ++ step ps found found[at_]) (at_ + 1) by rw [led, ex]]
    · have e : at_ = found.length := by omega
      subst e
      have ex : found[found.length]? = none := List.getElem?_eq_none (Nat.le_refl _)
      simp only [lft_def, T.mapEx_ret, T.ret_bind, Nat.lt_irrefl, decide_false, Bool.false_eq_true, if_false]
      rw [show led ps (k + 1) found found.length = found by rw [led, ex]]
end Cm

namespace Cm
open PySem PySem.Spec FL
@[simp] theorem listOnly_l (ds : List D) : listOnly (.list ds) = some ds := rfl
abbrev fdL (found : List Nat) : D := .list (tds (found.map on))
abbrev psD (ps : List Pr) : List D := tds (ps.map pt)
@[simp high] theorem dIx_p0 (p : Pr) : dIx (.str (pt p)) (.int 0) = some (.str (on p.1)) := rfl
@[simp high] theorem dIx_p1 (p : Pr) : dIx (.str (pt p)) (.int 1) = some (.str (on p.2)) := rfl
theorem ok_on {c : Nat} (h : c < 128) : PyData.strOk (on c) = true := by
  show (#[c].all (· < 0x110000)) = true
  simp
  omega
theorem okT_on {cs : List Nat} (h : ∀ c ∈ cs, c < 128) : okT (cs.map on) = true := by
  unfold okT
  rw [List.all_map]
  exact List.all_eq_true.mpr fun c hc => ok_on (h c hc)
theorem mem_on {c : Nat} {cs : List Nat} : on c ∈ cs.map on ↔ c ∈ cs := by
  rw [List.mem_map]
  exact ⟨fun ⟨a, h, e⟩ => by rw [← on_inj.mp e]; exact h, fun h => ⟨c, h, rfl⟩⟩
theorem dNotIn_on {c : Nat} {found : List Nat} (hc : c < 128) (h : ∀ c ∈ found, c < 128) : dNotIn2 (.str (on c)) (fdL found) = some (.bool (!decide (c ∈ found))) := by
  rw [dNotIn2_def, dIn2_l, dIn_strs' hc h]
  rfl
where
  dIn_strs' {c : Nat} {found : List Nat} (hc : c < 128) (h : ∀ c ∈ found, c < 128) : dIn (.str (on c)) (.list (tds (found.map on))) = some (.bool (decide (c ∈ found))) := by
    rw [dIn_tds (by show (PyData.strOk (on c) && okT (found.map on)) = true; rw [ok_on hc, okT_on h]; rfl)]
    congr 2
    exact decide_eq_decide.mpr mem_on
theorem dIx_fd {found : List Nat} {i x : Nat} (h : found[i]? = some x) : dIx (fdL found) (.int (i : Int)) = some (.str (on x)) := by
  rw [dIx_l, atI_nn, tds_at, List.getElem?_map, h]
  rfl
theorem psD_map (ps : List Pr) : psD ps = ps.map fun p => D.str (pt p) := List.map_map
theorem itemsL_eq {ps : List Pr} : ∀ {xs ys : List D}, xs = ys → xs = ys := fun h => h
def Row (d : D) (ps : List Pr) : Prop := d = .list (psD ps) ∨ d = .tuple (psD ps)
theorem Row.items {d : D} {ps : List Pr} (h : Row d ps) : itemsOf d = some (psD ps) := by rcases h with rfl | rfl <;> rfl
theorem pLen {ps : List Pr} {U : List Nat} (hl : ps.length ≤ 1000) : (psD ps).length ≤ 1000000 := by
  rw [tds_len, List.length_map]
  omega
def mkF (a d : D) (found : List Nat) (at_ : Nat) : Sl := [some (.v (.d a)), some (.v (.d d)), some (.own (fdL found)), some (.v (.d (.int (at_ : Nat)))), none]
theorem led_rows {ps : List Pr} {U found : List Nat} {at_ x : Nat} {a d : D} (hU : ∀ p ∈ ps, p.2 ∈ U) (hA : ∀ c ∈ U, c < 128) (h : Fd ps U found) (hx : found[at_]? = some x) :
    itemsL (.one 4) (wipeD (mkF a d found at_) [4]) (fAnd (fVal (fOp dEq (fOp dIx (fVar 4) (fC (.int 0))) (fOp dIx (fVar 2) (fVar 3)))) (fVal (fOp dNotIn2 (fOp dIx (fVar 4) (fC (.int 1))) (fVar 2)))) (fOne (fOp dIx (fVar 4) (fC (.int 1)))) (psD ps) = .ret (tds ((step ps found x).map on)) := by
  rw [psD_map, items_pure (fun p => D.str (pt p)) (fun p => decide (p.1 = x) && !decide (p.2 ∈ found)) (fun p => D.str (on p.2)) ps (fun p hp => ?_)]
  · unfold step tds
    rw [List.map_map, List.map_map]
    rfl
  · refine ⟨_, rfl, ?_, fun _ => ?_⟩
    · have e1 := dIx_fd hx
      have e2 := dNotIn_on (hA _ (hU p hp)) (fun c hc => hA c (h.sub c hc))
      simp only [mkF, wipeD, List.set_cons_succ, List.set_cons_zero] at *
      by_cases hp1 : p.1 = x
      · simp [-dNotIn2_def, e1, e2, hp1, on_inj]
      · simp [-dNotIn2_def, e1, e2, hp1, on_inj]
    · simp [mkF, wipeD]
theorem led_ev {ps : List Pr} {U cs : List Nat} {d : D} (g : Good ps) (hn : U.Nodup) (hU : ∀ p ∈ ps, p.2 ∈ U) (hA : ∀ c ∈ U, c < 128) (hcs : Fd ps U cs) (hl : U.length ≤ 1000) (hp : ps.length ≤ 1000) (hd : Row d ps) :
    f_led_from [.d (.str (tx cs)), .d d] = .ret (.list (tds ((led ps 1000000 cs 0).map on))) := by
  have L := led_loop (c := fVal (fOp dLt (fVar 3) (fCB rDicts (fCons (fVar 2) fNil)))) (b := sSeq (sExt 2 (fLc (fIt (fVar 1)) (.one 4) [4] (fAnd (fVal (fOp dEq (fOp dIx (fVar 4) (fC (.int 0))) (fOp dIx (fVar 2) (fVar 3)))) (fVal (fOp dNotIn2 (fOp dIx (fVar 4) (fC (.int 1))) (fVar 2)))) (fOp dIx (fVar 4) (fC (.int 1))))) (sAug 3 (augI fun a b => a + b) (fC (.int 1)))) (mk := mkF (.str (tx cs)) d) g hn hU (fun found at_ h => ?_) (fun found at_ x h hx => ?_) 1000000 cs 0 hcs (Nat.zero_le _) (by omega)
  · have el : (tx cs).length ≤ 1000000 := by have := hcs.len hn; rw [tx_len]; omega
    have es : signs (tx cs) = tds (cs.map on) := signs_tds _
    simp only [mkF, Int.natCast_zero] at L
    simp [f_led_from, b_led_from, sWhile, el, es, L]
  · simp [mkF]
  · have e1 := led_rows (a := .str (tx cs)) (d := d) hU hA h hx
    have e2 := hd.items
    have e3 := pLen (U := U) hp
    have e4 : found.length ≤ 1000 := Nat.le_trans (h.len hn) hl
    have e5 : (step ps found x).length ≤ 1000 := Nat.le_trans (Nat.le_trans (List.sublist_append_right found _).length_le ((h.step g hU x).len hn)) hl
    have e6 : found.length + (step ps found x).length ≤ 1000000 := by omega
    simp only [mkF] at e1 ⊢
    have e3' : ps.length ≤ 1000000 := by omega
    simp [noOwns, isOwn, e2, e1, e6, e3', ← tds_app, ← List.map_append]
end Cm

namespace Cm
open PySem PySem.Spec FL
theorem sIx_1 (n : Nat) : HT.sIx n 0 (some 1) = min 1 n := by
  unfold HT.sIx
  simp
theorem sIx_n (n d : Nat) : HT.sIx n d none = d := rfl
theorem drop_min {α : Type} (xs : List α) : (xs.drop (min 1 xs.length)).take (xs.length - min 1 xs.length) = xs.tail := by
  cases xs with
  | nil => rfl
  | cons x xs =>
    rw [List.length_cons, show min 1 (xs.length + 1) = 1 by omega]
    simp
theorem cutD_1 (xs : List D) : cutD xs (some 1) none = xs.tail := by
  unfold cutD
  rw [sIx_1, sIx_n, drop_min]
theorem cutS_1 (cs : List Nat) : L2.cutS (tx cs) (some 1) none = tx cs.tail := by
  apply str_ext
  show ((cs.drop (HT.sIx cs.length 0 (some 1))).take (HT.sIx cs.length cs.length none - HT.sIx cs.length 0 (some 1))) = cs.tail
  rw [sIx_1, sIx_n, drop_min]
theorem tds_tail (xs : List Str) : (tds xs).tail = tds xs.tail := by cases xs <;> rfl
theorem pairsZ_tds (xs ys : List Str) : pairsZ (tds xs) (tds ys) = (xs.zip ys).map fun p => .tuple [.str p.1, .str p.2] := by
  unfold pairsZ tds
  rw [List.zip_map, List.map_map]
  rfl
def ltB (x y : Str) : Bool := decide (x.cps.toList < y.cps.toList)
def ascS (xs : List Str) : Bool := (xs.zip xs.tail).all fun p => ltB p.1 p.2
theorem bools_map {α : Type} (t : α → Bool) : ∀ xs : List α, bools (xs.map fun x => D.bool (t x)) = some (xs.map t)
  | [] => rfl
  | x :: xs => by
    show (bools (xs.map fun x => D.bool (t x))).map (t x :: ·) = _
    rw [bools_map t xs]
    rfl
theorem gAll_map {α : Type} (t : α → Bool) (xs : List α) : gAll [.list (xs.map fun x => D.bool (t x))] = some (.bool (xs.all t)) := by
  show (bools _).map _ = _
  rw [bools_map, Option.map_some, List.all_map]
  rfl
/-- the row of neighbours -/
theorem asc_rows (d : D) (xs : List Str) : itemsL (.many [1, 2]) [some (.v (.d d)), none, none] fYes (fOne (fOp dLt (fVar 1) (fVar 2))) (pairsZ (tds xs) (tds xs.tail)) = .ret ((xs.zip xs.tail).map fun p => .bool (ltB p.1 p.2)) := by
  rw [pairsZ_tds, items_pure (fun p : Str × Str => D.tuple [.str p.1, .str p.2]) (fun _ => true) (fun p => .bool (ltB p.1 p.2)) _ (fun p hp => ⟨_, rfl, rfl, fun _ => ?_⟩)]
  · rw [List.filter_eq_self.mpr fun _ _ => rfl]
  · simp [dLt_s, ltB]
theorem asc_list (xs : List Str) (hl : xs.length ≤ 1000) : f_ascends [.d (.list (tds xs))] = .ret (.bool (ascS xs)) := by
  have e := asc_rows (.list (tds xs)) xs
  have e2 : (pairsZ (tds xs) (tds xs.tail)).length ≤ 1000000 := by rw [pairsZ_length, tds_len]; omega
  have e3 := gAll_map (fun p : Str × Str => ltB p.1 p.2) (xs.zip xs.tail)
  simp [f_ascends, b_ascends, noOwns, isOwn, wipeD, cutD_1, tds_tail, e2, e, e3, ascS]
theorem asc_tuple (xs : List Str) (hl : xs.length ≤ 1000) : f_ascends [.d (.tuple (tds xs))] = .ret (.bool (ascS xs)) := by
  have e := asc_rows (.tuple (tds xs)) xs
  have e2 : (pairsZ (tds xs) (tds xs.tail)).length ≤ 1000000 := by rw [pairsZ_length, tds_len]; omega
  have e3 := gAll_map (fun p : Str × Str => ltB p.1 p.2) (xs.zip xs.tail)
  simp [f_ascends, b_ascends, noOwns, isOwn, wipeD, cutD_1, tds_tail, e2, e, e3, ascS]
@[simp] theorem dCut_s (x : Str) (l u : Option Int) : dCut (.str x) l u = if x.length ≤ 1000000 then some (.str (L2.cutS x l u)) else none := rfl
theorem asc_text (cs : List Nat) (hl : cs.length ≤ 1000) (ha : ∀ c ∈ cs, c < 128) : f_ascends [.d (.str (tx cs))] = .ret (.bool (ascS (cs.map on))) := by
  have e := asc_rows (.str (tx cs)) (cs.map on)
  have a1 : ascii (tx cs) = true := by
    show cs.toArray.all (· < 128) = true
    simpa using ha
  have a2 : ascii (tx cs.tail) = true := by
    show cs.tail.toArray.all (· < 128) = true
    simpa using fun c hc => ha c (List.mem_of_mem_tail hc)
  have s1 : signs (tx cs) = tds (cs.map on) := signs_tds _
  have s2 : signs (tx cs.tail) = tds (cs.map on).tail := by
    rw [signs_tds, tx_list, List.map_tail]
  have e2 : (pairsZ (tds (cs.map on)) (tds (cs.map on).tail)).length ≤ 1000000 := by rw [pairsZ_length, tds_len, List.length_map]; omega
  have e3 := gAll_map (fun p : Str × Str => ltB p.1 p.2) ((cs.map on).zip (cs.map on).tail)
  have l1 : (tx cs).length ≤ 1000000 := by rw [tx_len]; omega
  simp [f_ascends, b_ascends, noOwns, isOwn, wipeD, cutS_1, a1, a2, s1, s2, l1, e2, e, e3, ascS]
end Cm

namespace Cm
open PySem PySem.Spec FL
def abc : List Nat := (("abcdefghijklmnopqrstuvwxyz" : String) : Str).cps.toList
def isL (c : Nat) : Bool := decide (c ∈ abc)
theorem isL_lt {c : Nat} (h : isL c = true) : c < 128 := by
  have : ∀ x ∈ abc, x < 128 := by decide +kernel
  exact this c (of_decide_eq_true h)
def okL (cs : List Nat) : Bool := cs.all isL && ascS (cs.map on)
/-- the row of signs -/
theorem let_rows (i : Nat) (δ : Sl) (h : i < δ.length) (cs : List Nat) : itemsL (.one i) δ fYes (fOne (fOp dIn2 (fVar i) (fC (.str "abcdefghijklmnopqrstuvwxyz")))) (tds (cs.map on)) = .ret (cs.map fun c => .bool (isL c)) := by
  rw [show tds (cs.map on) = cs.map fun c => D.str (on c) from List.map_map, items_pure (fun c => D.str (on c)) (fun _ => true) (fun c => .bool (isL c)) _ (fun c hc => ⟨_, rfl, rfl, fun _ => ?_⟩)]
  · rw [List.filter_eq_self.mpr fun _ _ => rfl]
  · have e : dIn2 (.str (on c)) (.str "abcdefghijklmnopqrstuvwxyz") = some (.bool (isL c)) := rfl
    rw [fOp_def, fVar_def, List.getElem?_set_self h]
    simp [-dIn2_s, e]
theorem letters_ev (cs : List Nat) (hl : cs.length ≤ 1000) : f_are_letters [.d (.str (tx cs))] = .ret (.bool (okL cs)) := by
  have s1 : signs (tx cs) = tds (cs.map on) := signs_tds _
  have e := let_rows 1 [some (.v (.d (.str (tx cs)))), none] (Nat.lt_of_sub_eq_succ rfl) cs
  have e3 := gAll_map isL cs
  have l1 : cs.length ≤ 1000000 := by omega
  by_cases h : cs.all isL = true
  · have e4 := asc_text cs hl (fun c hc => isL_lt (List.all_eq_true.mp h c hc))
    simp only [f_are_letters, b_are_letters]
    simp [isB, tyN, noOwns, isOwn, wipeD, s1, l1, e, e3, h, e4, okL]
  · have h' : cs.all isL = false := by simpa using h
    simp only [f_are_letters, b_are_letters]
    simp [isB, tyN, noOwns, isOwn, wipeD, s1, l1, e, e3, h', okL]
/-! ### pairs -/
def okP (xs : List Str) : Bool := xs.all (fun x => decide (x.cps.size = 2)) && (xs.all (fun x => x.cps.toList.all isL) && ascS xs)
theorem row_ev {d : D} {xs : List D} (h : d = .list xs ∨ d = .tuple xs) : f_is_row [.d d] = .ret (.bool true) := by
  rcases h with rfl | rfl <;> rfl
theorem two_rows (d : D) (xs : List Str) (hl : ∀ x ∈ xs, x.length ≤ 1000) : itemsL (.one 1) [some (.v (.d d)), none, none] fYes (fOne (fAndV (fIsi (some "str") [] (fVar 1)) (fOp dEq (fCB rDicts (fCons (fVar 1) fNil)) (fC (.int 2))))) (tds xs) = .ret (xs.map fun x => .bool (decide (x.cps.size = 2))) := by
  rw [show tds xs = xs.map D.str from rfl, items_pure D.str (fun _ => true) (fun x => .bool (decide (x.cps.size = 2))) _ (fun x hx => ⟨_, rfl, rfl, fun _ => ?_⟩)]
  · rw [List.filter_eq_self.mpr fun _ _ => rfl]
  · have l1 : x.length ≤ 1000000 := by have := hl x hx; omega
    have l2 : x.length = x.cps.size := rfl
    simp [isB, tyN, l1]
    rw [l2]
    by_cases h : x.cps.size = 2
    · simp [h]
    · have : ¬ ((x.cps.size : Int) = 2) := by omega
      simp [h, this]
theorem flat_map {α β : Type} (f : α → List β) (t : β → Bool) : ∀ xs : List α, ((xs.map f).flatten).all t = xs.all fun x => (f x).all t
  | [] => rfl
  | x :: xs => by
    rw [List.map_cons, List.flatten_cons, List.all_append, flat_map f t xs]
    rfl
theorem sign_rows (d : D) (xs : List Str) (h2 : ∀ x ∈ xs, x.cps.size = 2) : itemsL (.one 1) [some (.v (.d d)), none, none] fYes (innerL 1000 (fIt (fVar 1)) (.one 2) [2] fYes (fOp dIn2 (fVar 2) (fC (.str "abcdefghijklmnopqrstuvwxyz")))) (tds xs) = .ret (((xs.map fun x => x.cps.toList).flatten).map fun c => .bool (isL c)) := by
  rw [show tds xs = xs.map D.str from rfl, items_pure2 (β := Nat) D.str (fun x => x.cps.toList.map fun c => .bool (isL c)) _ (fun x hx => ⟨_, rfl, ?_⟩)]
  · rw [List.map_flatten, List.map_map]
    rfl
  · have e := let_rows 2 [some (.v (.d d)), some (.v (.d (.str x))), none] (Nat.lt_of_sub_eq_succ rfl) x.cps.toList
    have s1 := signs_tds x
    have l : x.cps.toList.length ≤ 1000 := by rw [Array.length_toList, h2 x hx]; decide
    have l' : x.cps.size ≤ 1000 := by rw [← Array.length_toList]; exact l
    simp [noOwns, isOwn, wipeD, s1, e, l']
theorem pairs_ev {d : D} {xs : List Str} (h : d = .list (tds xs) ∨ d = .tuple (tds xs)) (hl : xs.length ≤ 1000) (hx : ∀ x ∈ xs, x.length ≤ 1000) : f_are_pairs [.d d] = .ret (.bool (okP xs)) := by
  have e0 := row_ev h
  have ei : itemsOf d = some (tds xs) := by rcases h with rfl | rfl <;> rfl
  have e1 := two_rows d xs hx
  have e2 := gAll_map (fun x : Str => decide (x.cps.size = 2)) xs
  have l1 : xs.length ≤ 1000000 := by omega
  have l2 : xs.length * 1000 ≤ 10000000 := by omega
  have ea : f_ascends [.d d] = .ret (.bool (ascS xs)) := by
    rcases h with rfl | rfl
    · exact asc_list xs hl
    · exact asc_tuple xs hl
  by_cases h2 : xs.all (fun x => decide (x.cps.size = 2)) = true
  · have e3 := sign_rows d xs (fun x hx => of_decide_eq_true (List.all_eq_true.mp h2 x hx))
    have e4 := gAll_map isL ((xs.map fun x => x.cps.toList).flatten)
    have e5 := flat_map (fun x : Str => x.cps.toList) isL xs
    generalize (xs.map fun x => x.cps.toList).flatten = cs at e3 e4 e5
    rw [e5] at e4
    simp only [f_are_pairs, b_are_pairs]
    by_cases h3 : (xs.all fun x => x.cps.toList.all isL) = true
    · simp only [h2, h3] at e2 e4
      simp only [okP, h2, h3]
      simp [noOwns, isOwn, wipeD, e0, ei, e1, e2, l1, l2, -innerL_def, e3, e4, ea]
    · have h3' : (xs.all fun x => x.cps.toList.all isL) = false := by simpa using h3
      simp only [h2, h3'] at e2 e4
      simp only [okP, h2, h3']
      simp [noOwns, isOwn, wipeD, e0, ei, e1, e2, l1, l2, -innerL_def, e3, e4, ea]
  · have h2' : xs.all (fun x => decide (x.cps.size = 2)) = false := by simpa using h2
    simp only [h2'] at e2
    simp only [f_are_pairs, b_are_pairs, okP, h2']
    simp [noOwns, isOwn, wipeD, e0, ei, e1, e2, l1]
end Cm

namespace Cm
open PySem PySem.Spec FL
theorem seq_eq {f g : FS} {δ δ' : Sl} (h : f δ = .ret (.nx δ')) : sSeq f g δ = g δ' := by rw [sSeq_def, h, T.ret_bind, oSeq_nx]
/-! ### codes in order -/
def insN (x : Nat) : List Nat → List Nat
  | [] => [x]
  | y :: ys => if y < x then y :: insN x ys else x :: y :: ys
def sortN : List Nat → List Nat
  | [] => []
  | x :: xs => insN x (sortN xs)
theorem insN_on (x : Nat) : ∀ ys : List Nat, insS (on x) (ys.map on) = (insN x ys).map on
  | [] => rfl
  | y :: ys => by
    have e : ((on y).cps.toList < (on x).cps.toList) ↔ y < x := by
      show [y] < [x] ↔ y < x
      rw [List.cons_lt_cons_iff]
      simp
    rw [List.map_cons]
    unfold insS insN
    by_cases h : y < x
    · rw [if_pos (e.mpr h), if_pos h, insN_on x ys, List.map_cons]
    · rw [if_neg (fun z => h (e.mp z)), if_neg h, List.map_cons, List.map_cons]
theorem sortN_on : ∀ xs : List Nat, sortS (xs.map on) = (sortN xs).map on
  | [] => rfl
  | x :: xs => by
    show insS (on x) (sortS (xs.map on)) = _
    rw [sortN_on xs, insN_on]
    rfl
theorem sortN_len (xs : List Nat) : (sortN xs).length = xs.length := by
  have := (sortS_perm (xs.map on)).length_eq
  rw [sortN_on, List.length_map, List.length_map] at this
  exact this
theorem sortN_nil {xs : List Nat} : sortN xs = [] ↔ xs = [] := by
  rw [← List.length_eq_zero_iff, sortN_len, List.length_eq_zero_iff]
/-! ### a manner -/
def sw (ps : List Pr) : List Pr := ps.map fun p => (p.2, p.1)
def NN : Nat := 1000000
def both (a b : List Nat) : List Nat := a.filter fun c => decide (c ∈ b)
def useful (x y : List Nat) (ps : List Pr) : List Nat := sortN (both (led ps NN x 0) (led (sw ps) NN y 0))
def lets (x ls : List Nat) : D := .list (tds ((both x ls).map on))
def lpairs (ps : List Pr) (ls : List Nat) : D := .list (psD (ps.filter fun p => decide (p.1 ∈ ls) && decide (p.2 ∈ ls)))
def fields (x y : List Nat) (ps : List Pr) (ls : List Nat) : List (Str × D) := [("letters", .str (tx ls)), ("firsts", .str (tx x)), ("follows", .tuple (psD ps)), ("lasts", .str (tx y)), ("begins", lets x ls), ("ends", lets y ls), ("pairs", lpairs ps ls)]
def manner (c : Nat) (x y : List Nat) (ps : List Pr) (ls : List Nat) : D := .obj c (fields x y ps ls)
structure Fine (U x y : List Nat) (ps : List Pr) : Prop where
  g : Good ps
  gs : Good (sw ps)
  un : U.Nodup
  ul : U.length ≤ 60
  ua : ∀ c ∈ U, c < 128
  p1 : ∀ p ∈ ps, p.1 ∈ U
  p2 : ∀ p ∈ ps, p.2 ∈ U
  pl : ps.length ≤ 1000
  fx : Fd ps U x
  fy : Fd (sw ps) U y
  ox : okL x = true
  oy : okL y = true
  op : okP (ps.map pt) = true
@[simp] theorem mkI_def (L m c : Nat) (f : FS) (ws : List W) : mkI L m c f ws = if ws.length = m then ((f (startI L c ws)).mapEx Prod.fst).bind finI else .bad := rfl
theorem swap_rows (δ : Sl) (h : 6 < δ.length) (ps : List Pr) : itemsL (.one 6) δ fYes (fOne (fRev (fVar 6))) (psD ps) = .ret (psD (sw ps)) := by
  rw [psD_map, psD_map, items_pure (fun p => D.str (pt p)) (fun _ => true) (fun p => D.str (pt (p.2, p.1))) _ (fun p hp => ⟨_, rfl, rfl, fun _ => ?_⟩)]
  · rw [List.filter_eq_self.mpr fun _ _ => rfl]
    unfold sw
    rw [List.map_map]
    rfl
  · have e : dRev (.str (pt p)) = some (.str (pt (p.2, p.1))) := rfl
    unfold fRev
    rw [fVar_def, List.getElem?_set_self h]
    simp [e]
theorem in_rows (δ : Sl) (h : 7 < δ.length) (f : FE) (cs bs : List Nat) (hf : ∀ v, f (δ.set 7 v) = .ret (.d (.str (tx bs))) ∨ (f (δ.set 7 v) = .ret (.d (fdL bs)) ∧ (∀ c ∈ cs, c < 128) ∧ ∀ c ∈ bs, c < 128)) : itemsL (.one 7) δ (fVal (fOp dIn2 (fVar 7) f)) (fOne (fVar 7)) (tds (cs.map on)) = .ret (tds ((both cs bs).map on)) := by
  rw [show tds (cs.map on) = cs.map fun c => D.str (on c) from List.map_map, items_pure (fun c => D.str (on c)) (fun c => decide (c ∈ bs)) (fun c => D.str (on c)) _ (fun c hc => ⟨_, rfl, ?_, fun _ => ?_⟩)]
  · unfold both tds
    rw [List.map_map]
    rfl
  · rcases hf (some (S.v (.d (.str (on c))))) with e | ⟨e, h1, h2⟩
    · have e2 : dIn2 (.str (on c)) (.str (tx bs)) = some (.bool (decide (c ∈ bs))) := rfl
      rw [fVal_def, fOp_def, fVar_def, List.getElem?_set_self h, e]
      simp [-dIn2_s, e2]
    · have e2 : dIn2 (.str (on c)) (fdL bs) = some (.bool (decide (c ∈ bs))) := (dIn2_l _ _).trans (dNotIn_on.dIn_strs' (h1 c hc) h2)
      rw [fVal_def, fOp_def, fVar_def, List.getElem?_set_self h, e]
      simp [-dIn2_l, e2]
  · rw [fVar_def, List.getElem?_set_self h]
end Cm

namespace Cm
open PySem PySem.Spec FL
variable {c e : Nat} {U x y : List Nat} {ps : List Pr} {d : D}
theorem Fine.xs (h : Fine U x y ps) : x.length ≤ 60 := Nat.le_trans (h.fx.len h.un) h.ul
theorem Fine.ys (h : Fine U x y ps) : y.length ≤ 60 := Nat.le_trans (h.fy.len h.un) h.ul
theorem sw_2 (h : Fine U x y ps) : ∀ p ∈ sw ps, p.2 ∈ U := fun p hp => by
  obtain ⟨q, hq, rfl⟩ := List.mem_map.mp hp
  exact h.p1 q hq
theorem Fine.a (h : Fine U x y ps) : Fd ps U (led ps NN x 0) := led_fd h.g h.p2 _ _ _ h.fx
theorem Fine.b (h : Fine U x y ps) : Fd (sw ps) U (led (sw ps) NN y 0) := led_fd h.gs (sw_2 h) _ _ _ h.fy
def objS (c : Nat) (fs : List (Str × D)) (x : List Nat) (d : D) (y : List Nat) (l : List (Option S)) : Sl := some (.own (.obj c fs)) :: some (.v (.d (.str (tx x)))) :: some (.v (.d d)) :: some (.v (.d (.str (tx y)))) :: l
/-- what is looked at first -/
theorem init_head (h : Fine U x y ps) (hd : Row d ps) {k : FS} : (sSeq (sIf (fNot (fVal (fCall f_are_letters (fCons (fVar 1) fNil)))) (sRaise1 e "part" (fC (.str "firsts"))) sNext) (sSeq (sIf (fNot (fVal (fCall f_are_pairs (fCons (fVar 2) fNil)))) (sRaise1 e "part" (fC (.str "follows"))) sNext) (sSeq (sIf (fNot (fVal (fCall f_are_letters (fCons (fVar 3) fNil)))) (sRaise1 e "part" (fC (.str "lasts"))) sNext) k))) (objS c [] x d y [none, none, none, none]) = k (objS c [] x d y [none, none, none, none]) := by
  have e1 := letters_ev x (by have := h.xs; omega)
  have e3 := letters_ev y (by have := h.ys; omega)
  rw [h.ox] at e1
  rw [h.oy] at e3
  have e2 := pairs_ev (d := d) (xs := ps.map pt) hd (by rw [List.length_map]; exact h.pl) (fun z hz => by
    obtain ⟨p, _, rfl⟩ := List.mem_map.mp hz
    show 2 ≤ 1000
    decide)
  rw [h.op] at e2
  rw [seq_eq (δ' := objS c [] x d y [none, none, none, none]) (by simp [objS, e1]), seq_eq (δ' := objS c [] x d y [none, none, none, none]) (by simp [objS, e2]), seq_eq (δ' := objS c [] x d y [none, none, none, none]) (by simp [objS, e3])]
theorem both_len (a b : List Nat) : (both a b).length ≤ a.length := List.length_filter_le ..
theorem both_sub {a b : List Nat} {c : Nat} (h : c ∈ both a b) : c ∈ a := (List.mem_filter.mp h).1
theorem init_led (h : Fine U x y ps) (hd : Row d ps) {k : FS} :
    (sSeq (sSet 4 (fCall f_led_from (fCons (fVar 1) (fCons (fVar 2) fNil)))) (sSeq (sSet 5 (fCall f_led_from (fCons (fVar 3) (fCons (fLc (fIt (fVar 2)) (.one 6) [6] fYes (fRev (fVar 6))) fNil)))) k)) (objS c [] x d y [none, none, none, none]) =
      k (objS c [] x d y [some (.v (.d (fdL (led ps NN x 0)))), some (.v (.d (fdL (led (sw ps) NN y 0)))), none, none]) := by
  have e1 := led_ev (d := d) h.g h.un h.p2 h.ua h.fx (by have := h.ul; omega) h.pl hd
  have e2 := led_ev (d := .list (psD (sw ps))) h.gs h.un (sw_2 h) h.ua h.fy (by have := h.ul; omega) (by unfold sw; rw [List.length_map]; exact h.pl) (.inl rfl)
  have e3 := swap_rows [some (.own (.obj c [])), some (.v (.d (.str (tx x)))), some (.v (.d d)), some (.v (.d (.str (tx y)))), some (.v (.d (fdL (led ps NN x 0)))), none, none, none] (Nat.lt_of_sub_eq_succ rfl) ps
  have e4 := hd.items
  have e5 : ps.length ≤ 1000000 := by have := h.pl; omega
  have nn : (1000000 : Nat) = NN := rfl
  rw [nn] at e1 e2
  rw [seq_eq (δ' := objS c [] x d y [some (.v (.d (fdL (led ps NN x 0)))), none, none, none]) (by simp [objS, e1]), seq_eq (δ' := objS c [] x d y [some (.v (.d (fdL (led ps NN x 0)))), some (.v (.d (fdL (led (sw ps) NN y 0)))), none, none]) (by
    simp only [objS]
    simp [noOwns, isOwn, wipeD, e4, e5, e3, e2])]
theorem init_lets (h : Fine U x y ps) {k : FS} :
    (sSeq (sAt [c] "letters" 0 (fJoin (fC (.str "")) (fCB gSorted (fCons (fLc (fIt (fVar 4)) (.one 7) [7] (fVal (fOp dIn2 (fVar 7) (fVar 5))) (fVar 7)) fNil)))) k) (objS c [] x d y [some (.v (.d (fdL (led ps NN x 0)))), some (.v (.d (fdL (led (sw ps) NN y 0)))), none, none]) =
      k (objS c [("letters", .str (tx (useful x y ps)))] x d y [some (.v (.d (fdL (led ps NN x 0)))), some (.v (.d (fdL (led (sw ps) NN y 0)))), none, none]) := by
  have la : (led ps NN x 0).length ≤ 60 := Nat.le_trans (h.a.len h.un) h.ul
  have e1 := in_rows [some (.own (.obj c [])), some (.v (.d (.str (tx x)))), some (.v (.d d)), some (.v (.d (.str (tx y)))), some (.v (.d (fdL (led ps NN x 0)))), some (.v (.d (fdL (led (sw ps) NN y 0)))), none, none] (Nat.lt_of_sub_eq_succ rfl) (fVar 5) (led ps NN x 0) (led (sw ps) NN y 0) (fun v => .inr ⟨by simp, fun c hc => h.ua c (h.a.sub c hc), fun c hc => h.ua c (h.b.sub c hc)⟩)
  have l2 : (both (led ps NN x 0) (led (sw ps) NN y 0)).length < 64 := by have := both_len (led ps NN x 0) (led (sw ps) NN y 0); omega
  have e2 : gSorted [.list (tds ((both (led ps NN x 0) (led (sw ps) NN y 0)).map on))] = some (.list (tds ((useful x y ps).map on))) := by
    show (txts _).bind _ = _
    rw [txts_tds, Option.bind_some, if_pos (by rw [List.length_map]; exact l2), sortN_on]
    rfl
  have e3 : gJoin "" (.list (tds ((useful x y ps).map on))) = some (.str (tx (useful x y ps))) := by
    rw [gJoin_l, txts_tds, Option.bind_some]
    exact joinS_on (cs := useful x y ps) (by unfold useful; rw [sortN_len]; omega)
  have l1 : (led ps NN x 0).length ≤ 1000000 := by omega
  rw [seq_eq (δ' := objS c [("letters", .str (tx (useful x y ps)))] x d y [some (.v (.d (fdL (led ps NN x 0)))), some (.v (.d (fdL (led (sw ps) NN y 0)))), none, none]) (by
    simp only [objS]
    simp [-gJoin_l, noOwns, isOwn, wipeD, l1, e1, e2, e3, putD])]
end Cm

namespace Cm
open PySem PySem.Spec FL
variable {c e : Nat} {U x y : List Nat} {ps : List Pr} {d : D}
theorem tuple_ev (hd : Row d ps) : gTuple [d] = some (.tuple (psD ps)) := by rcases hd with rfl | rfl <;> rfl
def f1 (l x : List Nat) : List (Str × D) := [("letters", .str (tx l)), ("firsts", .str (tx x))]
def f2 (l x : List Nat) (ps : List Pr) : List (Str × D) := [("letters", .str (tx l)), ("firsts", .str (tx x)), ("follows", .tuple (psD ps))]
def f3 (l x : List Nat) (ps : List Pr) (y : List Nat) : List (Str × D) := [("letters", .str (tx l)), ("firsts", .str (tx x)), ("follows", .tuple (psD ps)), ("lasts", .str (tx y))]
def f4 (l x : List Nat) (ps : List Pr) (y : List Nat) : List (Str × D) := [("letters", .str (tx l)), ("firsts", .str (tx x)), ("follows", .tuple (psD ps)), ("lasts", .str (tx y)), ("begins", lets x l)]
def f5 (l x : List Nat) (ps : List Pr) (y : List Nat) : List (Str × D) := [("letters", .str (tx l)), ("firsts", .str (tx x)), ("follows", .tuple (psD ps)), ("lasts", .str (tx y)), ("begins", lets x l), ("ends", lets y l)]
theorem pair_rows (δ : Sl) (h : 6 < δ.length) (f : FE) (ps : List Pr) (bs : List Nat) (hf : ∀ v, f (δ.set 6 v) = .ret (.d (.str (tx bs)))) : itemsL (.one 6) δ (fAnd (fVal (fOp dIn2 (fOp dIx (fVar 6) (fC (.int 0))) f)) (fVal (fOp dIn2 (fOp dIx (fVar 6) (fC (.int 1))) f))) (fOne (fVar 6)) (psD ps) = .ret (psD (ps.filter fun p => decide (p.1 ∈ bs) && decide (p.2 ∈ bs))) := by
  rw [psD_map, psD_map, items_pure (fun p => D.str (pt p)) (fun p => decide (p.1 ∈ bs) && decide (p.2 ∈ bs)) (fun p => D.str (pt p)) _ (fun p hp => ⟨_, rfl, ?_, fun _ => ?_⟩)]
  · have e1 : dIn2 (.str (on p.1)) (.str (tx bs)) = some (.bool (decide (p.1 ∈ bs))) := rfl
    have e2 : dIn2 (.str (on p.2)) (.str (tx bs)) = some (.bool (decide (p.2 ∈ bs))) := rfl
    have e3 := hf (some (S.v (.d (.str (pt p)))))
    simp only [fAnd_def, fVal_def, fOp_def, fVar_def, List.getElem?_set_self h, e3]
    by_cases h1 : p.1 ∈ bs
    · simp [-dIn2_s, e1, e2, h1]
    · simp [-dIn2_s, e1, e2, h1]
  · rw [fVar_def, List.getElem?_set_self h]
def f0 (l : List Nat) : List (Str × D) := [("letters", .str (tx l))]
def f6 (l x : List Nat) (ps : List Pr) (y : List Nat) : List (Str × D) := fields x y ps l
theorem p1 (l x : List Nat) : putD "firsts" (.str (tx x)) (f0 l) = f1 l x := rfl
theorem p2 (l x : List Nat) (ps : List Pr) : putD "follows" (.tuple (psD ps)) (f1 l x) = f2 l x ps := rfl
theorem p3 (l x : List Nat) (ps : List Pr) (y : List Nat) : putD "lasts" (.str (tx y)) (f2 l x ps) = f3 l x ps y := rfl
theorem p4 (l x : List Nat) (ps : List Pr) (y : List Nat) : putD "begins" (.list (tds ((both x l).map on))) (f3 l x ps y) = f4 l x ps y := rfl
theorem p5 (l x : List Nat) (ps : List Pr) (y : List Nat) : putD "ends" (.list (tds ((both y l).map on))) (f4 l x ps y) = f5 l x ps y := rfl
theorem p6 (l x : List Nat) (ps : List Pr) (y : List Nat) : putD "pairs" (lpairs ps l) (f5 l x ps y) = f6 l x ps y := rfl
theorem k0 (l : List Nat) : (f0 l).lookup ("letters" : Str) = some (.str (tx l)) := rfl
theorem k3 (l x : List Nat) (ps : List Pr) (y : List Nat) : (f3 l x ps y).lookup ("letters" : Str) = some (.str (tx l)) := rfl
theorem k4 (l x : List Nat) (ps : List Pr) (y : List Nat) : (f4 l x ps y).lookup ("letters" : Str) = some (.str (tx l)) := rfl
theorem k5 (l x : List Nat) (ps : List Pr) (y : List Nat) : (f5 l x ps y).lookup ("letters" : Str) = some (.str (tx l)) := rfl
theorem k5f (l x : List Nat) (ps : List Pr) (y : List Nat) : (f5 l x ps y).lookup ("follows" : Str) = some (.tuple (psD ps)) := rfl
theorem n0 (l : List Nat) : (f0 l).length = 1 := rfl
theorem n1 (l x : List Nat) : (f1 l x).length = 2 := rfl
theorem n2 (l x : List Nat) (ps : List Pr) : (f2 l x ps).length = 3 := rfl
theorem n3 (l x : List Nat) (ps : List Pr) (y : List Nat) : (f3 l x ps y).length = 4 := rfl
theorem n4 (l x : List Nat) (ps : List Pr) (y : List Nat) : (f4 l x ps y).length = 5 := rfl
theorem n5 (l x : List Nat) (ps : List Pr) (y : List Nat) : (f5 l x ps y).length = 6 := rfl
theorem init_tail (h : Fine U x y ps) (hd : Row d ps) (s4 s5 : Option S) {ls : List Nat} (hl : ls ≠ []) :
    (((sSeq (sIf (fVal (fOp dEq (fAt [c] "letters" (fVar 0)) (fC (.str "")))) (sRaise1 e "part" (fC (.str "lasts"))) sNext) (sSeq (sAt [c] "firsts" 0 (fVar 1)) (sSeq (sAt [c] "follows" 0 (fCB gTuple (fCons (fVar 2) fNil))) (sSeq (sAt [c] "lasts" 0 (fVar 3)) (sSeq (sAt [c] "begins" 0 (fLc (fIt (fVar 1)) (.one 7) [7] (fVal (fOp dIn2 (fVar 7) (fAt [c] "letters" (fVar 0)))) (fVar 7))) (sSeq (sAt [c] "ends" 0 (fLc (fIt (fVar 3)) (.one 7) [7] (fVal (fOp dIn2 (fVar 7) (fAt [c] "letters" (fVar 0)))) (fVar 7))) (sAt [c] "pairs" 0 (fLc (fIt (fAt [c] "follows" (fVar 0))) (.one 6) [6] (fAnd (fVal (fOp dIn2 (fOp dIx (fVar 6) (fC (.int 0))) (fAt [c] "letters" (fVar 0)))) (fVal (fOp dIn2 (fOp dIx (fVar 6) (fC (.int 1))) (fAt [c] "letters" (fVar 0))))) (fVar 6)))))))))) (objS c (f0 ls) x d y [s4, s5, none, none]))
      = .ret (.nx (objS c (f6 ls x ps y) x d y [s4, s5, none, none])) := by
  have ne : ¬ (tx ls = ("" : Str)) := fun z => hl (tx_inj (a := ls) (b := []).mp z)
  have lx : x.length ≤ 1000000 := by have := h.xs; omega
  have ly : y.length ≤ 1000000 := by have := h.ys; omega
  have lp : ps.length ≤ 1000000 := by have := h.pl; omega
  have sx : signs (tx x) = tds (x.map on) := signs_tds _
  have sy : signs (tx y) = tds (y.map on) := signs_tds _
  have r4 := in_rows (objS c (f3 ls x ps y) x d y [s4, s5, none, none]) (Nat.lt_of_sub_eq_succ rfl) (fAt [c] "letters" (fVar 0)) x ls (fun v => .inl (by simp [objS, k3]))
  have r5 := in_rows (objS c (f4 ls x ps y) x d y [s4, s5, none, none]) (Nat.lt_of_sub_eq_succ rfl) (fAt [c] "letters" (fVar 0)) y ls (fun v => .inl (by simp [objS, k4]))
  have r6 := pair_rows (objS c (f5 ls x ps y) x d y [s4, s5, none, none]) (Nat.lt_of_sub_eq_succ rfl) (fAt [c] "letters" (fVar 0)) ps ls (fun v => by simp [objS, k5])
  rw [seq_eq (δ' := objS c (f0 ls) x d y [s4, s5, none, none]) (by simp [objS, ne, k0]),
    seq_eq (δ' := objS c (f1 ls x) x d y [s4, s5, none, none]) (by simp [objS, p1, n0]),
    seq_eq (δ' := objS c (f2 ls x ps) x d y [s4, s5, none, none]) (by simp [objS, p2, n1, tuple_ev hd]),
    seq_eq (δ' := objS c (f3 ls x ps y) x d y [s4, s5, none, none]) (by simp [objS, p3, n2]),
    seq_eq (δ' := objS c (f4 ls x ps y) x d y [s4, s5, none, none]) (by
      simp only [objS] at r4 ⊢
      simp [noOwns, isOwn, wipeD, lx, sx, r4, p4, n3]),
    seq_eq (δ' := objS c (f5 ls x ps y) x d y [s4, s5, none, none]) (by
      simp only [objS] at r5 ⊢
      simp [noOwns, isOwn, wipeD, ly, sy, r5, p5, n4])]
  have e6 := p6 ls x ps y
  unfold lpairs at e6
  simp only [objS] at r6 ⊢
  simp [-itemsL_nil, noOwns, isOwn, wipeD, lp, r6, e6, n5, k5f]
theorem useful_nil : useful x y ps = [] ↔ both (led ps NN x 0) (led (sw ps) NN y 0) = [] := sortN_nil
/-- a manner is made -/
theorem manner_ev (h : Fine U x y ps) (hd : Row d ps) (hl : useful x y ps ≠ []) : f_Manner_init c e [.d (.str (tx x)), .d d, .d (.str (tx y))] = .ret (manner c x y ps (useful x y ps)) := by
  have e : startI 8 c [.d (.str (tx x)), .d d, .d (.str (tx y))] = objS c [] x d y [none, none, none, none] := rfl
  rw [f_Manner_init, mkI_def]
  refine (if_pos rfl).trans ?_
  rw [e, b_Manner_init, init_head h hd, init_led h hd, init_lets h]
  rw [show objS c [("letters", .str (tx (useful x y ps)))] x d y = objS c (f0 (useful x y ps)) x d y from rfl, init_tail h hd _ _ hl]
  rfl
/-- .. or not: nothing leads from the firsts to the lasts -/
theorem manner_ex (h : Fine U x y ps) (hd : Row d ps) (hl : useful x y ps = []) : f_Manner_init c e [.d (.str (tx x)), .d d, .d (.str (tx y))] = .ex ⟨e, [("part", .str "lasts")]⟩ := by
  have e : startI 8 c [.d (.str (tx x)), .d d, .d (.str (tx y))] = objS c [] x d y [none, none, none, none] := rfl
  rw [f_Manner_init, mkI_def]
  refine (if_pos rfl).trans ?_
  rw [e, b_Manner_init, init_head h hd, init_led h hd, init_lets h, hl]
  have e0 : (tx [] : Str) = ("" : Str) := rfl
  have ek : List.lookup ("letters" : Str) [(("letters" : Str), D.str (tx []))] = some (.str (tx [])) := rfl
  simp [objS, e0]
end Cm

namespace Cm
open PySem PySem.Spec FL
/-! ### has, next_to, texts of a manner -/
def nextTo (q : List Pr) (a : Nat) : List Nat := (q.filter fun p => decide (p.1 = a)).map (·.2)
/-- what a Manner keeps that counts -/
structure MnV (c : Nat) (m : D) (bs es : List Nat) (q : List Pr) : Prop where
  ob : ∃ fs, m = .obj c fs ∧ fs.lookup ("begins" : Str) = some (.list (tds (bs.map on))) ∧ fs.lookup ("ends" : Str) = some (.list (tds (es.map on))) ∧ fs.lookup ("pairs" : Str) = some (.list (psD q)) ∧ fs.lookup ("next_to" : Str) = none ∧ fs.lookup ("has" : Str) = none ∧ fs.lookup ("texts" : Str) = none
  lb : bs.length ≤ 1000
  le : es.length ≤ 1000
  lq : q.length ≤ 1000
  ab : ∀ a ∈ bs, a < 128
  ae : ∀ a ∈ es, a < 128
  aq : ∀ p ∈ q, p.1 < 128 ∧ p.2 < 128
variable {c bn tm : Nat} {m : D} {bs es : List Nat} {q : List Pr}
theorem atI_last {α : Type} (xs : List α) : L2.atI xs (-1) = xs.getLast? := by
  unfold L2.atI L2.ixN
  rw [if_neg (by decide)]
  cases xs with
  | nil => rfl
  | cons x xs =>
    rw [if_pos (by rw [List.length_cons]; omega)]
    show (x :: xs)[((-1 : Int) + ((x :: xs).length : Nat)).toNat]? = _
    rw [List.getLast?_eq_getElem?]
    congr 1
    rw [List.length_cons]
    omega
theorem getLastD_eq : ∀ {t : List Nat}, t ≠ [] → t.getLast? = some (t.getLastD 0)
  | [], h => absurd rfl h
  | a :: t, _ => by
    rw [List.getLast?_eq_some_getLast (List.cons_ne_nil a t)]
    rw [List.getLastD_eq_getLast?, List.getLast?_eq_some_getLast (List.cons_ne_nil a t)]
    rfl
theorem last_ev {t : List Nat} (h : t ≠ []) (hl : t.length ≤ 1000000) : dIx (.str (tx t)) (.int (-1)) = some (.str (on (t.getLastD 0))) := by
  rw [dIx_s, if_pos (show (tx t).length ≤ 1000000 from hl), tx_list, atI_last, getLastD_eq h]
  rfl
theorem first_ev {a : Nat} {t : List Nat} (hl : (a :: t).length ≤ 1000000) : dIx (.str (tx (a :: t))) (.int 0) = some (.str (on a)) := dIx_sign (i := 0) hl rfl
theorem next_ev (M : MnV c m bs es q) (a : Nat) : f_Manner_next_to c [.d m, .d (.str (on a))] = .ret (.list (tds ((nextTo q a).map on))) := by
  obtain ⟨fs, rfl, h1, h2, h3, h4, h5, h6⟩ := M.ob
  have r : itemsL (.one 2) [some (.v (.d (.obj c fs))), some (.v (.d (.str (on a)))), none] (fVal (fOp dEq (fOp dIx (fVar 2) (fC (.int 0))) (fVar 1))) (fOne (fOp dIx (fVar 2) (fC (.int 1)))) (psD q) = .ret (tds ((nextTo q a).map on)) := by
    rw [psD_map, items_pure (fun p => D.str (pt p)) (fun p => decide (p.1 = a)) (fun p => D.str (on p.2)) q (fun p hp => ?_)]
    · unfold nextTo tds
      rw [List.map_map, List.map_map]
      rfl
    · refine ⟨_, rfl, ?_, fun _ => ?_⟩
      · by_cases hp1 : p.1 = a
        · simp [hp1, on_inj]
        · simp [hp1, on_inj]
      · simp
  have l1 : q.length ≤ 1000000 := by have := M.lq; omega
  simp [f_Manner_next_to, b_Manner_next_to, noOwns, isOwn, wipeD, h3, l1, r]
/-- one letter more -/
def stepT (q : List Pr) (ts : List (List Nat)) : List (List Nat) := ts.flatMap fun t => (nextTo q (t.getLastD 0)).map fun a => t ++ [a]
def tk (q : List Pr) : Nat → List (List Nat) → List (List Nat)
  | 0, ts => ts
  | k + 1, ts => tk q k (stepT q ts)
def txD (ts : List (List Nat)) : D := .list (tds (ts.map tx))
theorem next_rows (M : MnV c m bs es q) {s1 s2 s3 : Option S} (h2 : isOwn (some s2) = false) (ts : List (List Nat)) (hn : ∀ t ∈ ts, t ≠ [] ∧ t.length ≤ 1000) :
    itemsL (.one 5) [some (.v (.d m)), s1, s2, s3, none, none] fYes (innerL 1000 (fIt (fMethI [c] "next_to" 1 0 [.arg 0, .arg 1] (f_Manner_next_to c) (fVar 0) (fCons (fOp dIx (fVar 5) (fNeg (fC (.int 1)))) fNil) fNil)) (.one 4) [4] fYes (fOp dAdd (fVar 5) (fVar 4))) (tds (ts.map tx)) = .ret (tds ((stepT q ts).map tx)) := by
  rw [show tds (ts.map tx) = ts.map fun t => D.str (tx t) from List.map_map, items_pure2 (β := Nat) (fun t => D.str (tx t)) (fun t => (nextTo q (t.getLastD 0)).map fun a => .str (tx (t ++ [a]))) ts (fun t ht => ⟨_, rfl, ?_⟩)]
  · unfold stepT tds
    rw [List.map_map, List.map_flatMap, List.flatMap_def]
    congr 2
    refine List.map_congr_left fun t _ => ?_
    rw [List.map_map]
    rfl
  · obtain ⟨h0, hl⟩ := hn t ht
    have e1 := last_ev h0 (by omega)
    have e2 := next_ev M (t.getLastD 0)
    obtain ⟨fs, rfl, _, _, _, h4, _, _⟩ := M.ob
    have l1 : (nextTo q (t.getLastD 0)).length ≤ 1000 := by
      unfold nextTo
      rw [List.length_map]
      exact Nat.le_trans (List.length_filter_le ..) M.lq
    have r : itemsL (.one 4) [some (.v (.d (.obj c fs))), s1, s2, s3, none, some (.v (.d (.str (tx t))))] fYes (fOne (fOp dAdd (fVar 5) (fVar 4))) (tds ((nextTo q (t.getLastD 0)).map on)) = .ret ((nextTo q (t.getLastD 0)).map fun a => D.str (tx (t ++ [a]))) := by
      rw [show tds ((nextTo q (t.getLastD 0)).map on) = (nextTo q (t.getLastD 0)).map fun a => D.str (on a) from List.map_map, items_pure (fun a => D.str (on a)) (fun _ => true) (fun a => D.str (tx (t ++ [a]))) _ (fun a ha => ⟨_, rfl, rfl, fun _ => ?_⟩)]
      · rw [List.filter_eq_self.mpr fun _ _ => rfl]
      · have e3 : dAdd (.str (tx t)) (.str (on a)) = some (.str (tx (t ++ [a]))) := by
          show (if (tx t).length + (on a).length ≤ 1000000 then some (D.str (tx t ++ on a)) else none) = _
          rw [if_pos (show (tx t).length + (on a).length ≤ 1000000 from (show t.length + 1 ≤ 1000000 by omega)), on_tx, tx_app]
        simp [e3]
    simp [noOwns, isOwn, wipeD, -dIx_s, -List.getLastD_eq_getLast?, e1, h4, planW, Pl.w, e2, l1, r]
end Cm

namespace Cm
open PySem PySem.Spec FL
variable {c bn tm : Nat} {m : D} {bs es : List Nat} {q : List Pr}
def tBody (c tm : Nat) : FS := (sSeq (sSet 2 (fLc2 1000 (fIt (fVar 2)) (.one 5) [5, 4] fYes (fIt (fMethI [c] "next_to" 1 0 [.arg 0, .arg 1] (f_Manner_next_to c) (fVar 0) (fCons (fOp dIx (fVar 5) (fNeg (fC (.int 1)))) fNil) fNil)) (.one 4) [4] fYes (fOp dAdd (fVar 5) (fVar 4)))) (sIf (fVal (fOp dGt (fCB rDicts (fCons (fVar 2) fNil)) (fC (.int 5000)))) (sRaise2 tm "what" "most" (fC (.str "texts")) (fC (.int 5000))) sNext))
def tSt (m : D) (k : Nat) (ts : List (List Nat)) (s3 : Option D) : Sl := [some (.v (.d m)), some (.v (.d (.int (k : Nat)))), some (.v (.d (txD ts))), s3.map (fun z => S.v (.d z)), none, none]
def many : Xn → Prop := fun _ => True
def tooMany (tm : Nat) : Xn := ⟨tm, [("most", .int 5000), ("what", .str "texts")]⟩
theorem tBody_ev (M : MnV c m bs es q) {k : Nat} {s3 : Option D} (ts : List (List Nat)) (hn : ∀ t ∈ ts, t ≠ [] ∧ t.length ≤ 1000) (hl : ts.length ≤ 10000) :
    tBody c tm (tSt m k ts s3) = if (stepT q ts).length ≤ 5000 then .ret (.nx (tSt m k (stepT q ts) s3)) else .ex (tooMany tm, tSt m k (stepT q ts) s3) := by
  have r := next_rows M (s1 := some (.v (.d (.int (k : Nat))))) (s2 := some (.v (.d (txD ts)))) (s3 := s3.map (fun z => S.v (.d z))) rfl ts hn
  have l1 : ts.length * 1000 ≤ 10000000 := by omega
  have e : (sSet 2 (fLc2 1000 (fIt (fVar 2)) (.one 5) [5, 4] fYes (fIt (fMethI [c] "next_to" 1 0 [.arg 0, .arg 1] (f_Manner_next_to c) (fVar 0) (fCons (fOp dIx (fVar 5) (fNeg (fC (.int 1)))) fNil) fNil)) (.one 4) [4] fYes (fOp dAdd (fVar 5) (fVar 4)))) (tSt m k ts s3) = .ret (.nx (tSt m k (stepT q ts) s3)) := by
    simp only [tSt] at r ⊢
    simp only [sSet_def, fLc2_def, lft_def]
    simp [noOwns, isOwn, wipeD, txD, l1, -innerL_def, -fMethI_def] at r ⊢
    simp [-innerL_def, -fMethI_def, r]
  unfold tBody
  rw [seq_eq e]
  by_cases h : (stepT q ts).length ≤ 5000
  · have h' : ¬ ((5000 : Int) < ((stepT q ts).length : Nat)) := by omega
    simp [tSt, txD, h, h']
  · have h' : (5000 : Int) < ((stepT q ts).length : Nat) := by omega
    simp [tSt, txD, h, h', tooMany]
def fits (q : List Pr) (k : Nat) (ts : List (List Nat)) : Prop := ∀ j, j < k → (tk q (j + 1) ts).length ≤ 5000
theorem fits_step {k : Nat} {ts : List (List Nat)} (h : fits q (k + 1) ts) : (stepT q ts).length ≤ 5000 ∧ fits q k (stepT q ts) := ⟨h 0 (by omega), fun j hj => h (j + 1) (by omega)⟩
theorem stepT_ne {ts : List (List Nat)} {n : Nat} (hn : ∀ t ∈ ts, t ≠ [] ∧ t.length = n) : ∀ t ∈ stepT q ts, t ≠ [] ∧ t.length = n + 1 := fun t ht => by
  obtain ⟨u, hu, h⟩ := List.mem_flatMap.mp ht
  obtain ⟨a, _, rfl⟩ := List.mem_map.mp h
  refine ⟨fun z => by simp at z, ?_⟩
  rw [List.length_append, (hn u hu).2]
  rfl
theorem tLoop_ev (M : MnV c m bs es q) {k : Nat} : ∀ (xs : List D) (s3 : Option D) (ts : List (List Nat)) (n : Nat), (∀ t ∈ ts, t ≠ [] ∧ t.length = n) → n + xs.length ≤ 1000 → ts.length ≤ 10000 → fits q xs.length ts →
    ∃ s3', loopL (.one 3) (tBody c tm) xs (tSt m k ts s3) = .ret (.nx (tSt m k (tk q xs.length ts) s3'))
  | [], s3, ts, n, hn, hx, hl, hf => ⟨s3, rfl⟩
  | x :: xs, s3, ts, n, hn, hx, hl, hf => by
    rw [List.length_cons] at hx hf
    obtain ⟨f1, f2⟩ := fits_step hf
    have e := tBody_ev (tm := tm) M (k := k) (s3 := some x) ts (fun t ht => ⟨(hn t ht).1, by rw [(hn t ht).2]; omega⟩) hl
    rw [if_pos f1] at e
    obtain ⟨s3', h⟩ := tLoop_ev M (k := k) xs (some x) (stepT q ts) (n + 1) (stepT_ne hn) (by omega) (by omega) f2
    refine ⟨s3', ?_⟩
    rw [loopL_cons, putT_one, T.of_some, T.ret_bind]
    show (tBody c tm (tSt m k ts (some x))).bind _ = _
    rw [e, T.ret_bind, oLoop_nx, h]
    rfl
theorem tLoop_ex (M : MnV c m bs es q) {k : Nat} : ∀ (i : Nat) (xs : List D) (s3 : Option D) (ts : List (List Nat)) (n : Nat), (∀ t ∈ ts, t ≠ [] ∧ t.length = n) → n + xs.length ≤ 1000 → ts.length ≤ 10000 → i < xs.length → fits q i ts → 5000 < (tk q (i + 1) ts).length →
    ∃ δ, loopL (.one 3) (tBody c tm) xs (tSt m k ts s3) = .ex (tooMany tm, δ)
  | i, [], s3, ts, n, hn, hx, hl, hi, hf, h5 => absurd hi (Nat.not_lt_zero _)
  | 0, x :: xs, s3, ts, n, hn, hx, hl, hi, hf, h5 => by
    rw [List.length_cons] at hx
    have e := tBody_ev (tm := tm) M (k := k) (s3 := some x) ts (fun t ht => ⟨(hn t ht).1, by rw [(hn t ht).2]; omega⟩) hl
    rw [if_neg (show ¬ (stepT q ts).length ≤ 5000 from Nat.not_le.mpr h5)] at e
    refine ⟨tSt m k (stepT q ts) (some x), ?_⟩
    rw [loopL_cons, putT_one, T.of_some, T.ret_bind]
    show (tBody c tm (tSt m k ts (some x))).bind _ = _
    rw [e, T.ex_bind]
  | i + 1, x :: xs, s3, ts, n, hn, hx, hl, hi, hf, h5 => by
    rw [List.length_cons] at hx hi
    obtain ⟨f1, f2⟩ := fits_step hf
    have e := tBody_ev (tm := tm) M (k := k) (s3 := some x) ts (fun t ht => ⟨(hn t ht).1, by rw [(hn t ht).2]; omega⟩) hl
    rw [if_pos f1] at e
    obtain ⟨δ, h⟩ := tLoop_ex M (k := k) i xs (some x) (stepT q ts) (n + 1) (stepT_ne hn) (by omega) (by omega) (by omega) f2 h5
    refine ⟨δ, ?_⟩
    rw [loopL_cons, putT_one, T.of_some, T.ret_bind]
    show (tBody c tm (tSt m k ts (some x))).bind _ = _
    rw [e, T.ret_bind, oLoop_nx, h]
def tEnd (c : Nat) : FS := (sRet (fCB gTuple (fCons (fLc (fIt (fVar 2)) (.one 5) [5] (fVal (fOp dIn2 (fOp dIx (fVar 5) (fNeg (fC (.int 1)))) (fAt [c] "ends" (fVar 0)))) (fVar 5)) fNil)))
def tHead (bn : Nat) : FS := (sIf (fNot (fVal (fCall f_is_within (fCons (fVar 1) (fCons (fC (.int 1)) (fCons (fC (.int 200)) fNil)))))) (sRaise1 bn "part" (fC (.str "many"))) sNext)
def tSet (c : Nat) : FS := (sSet 2 (fLc (fIt (fAt [c] "begins" (fVar 0))) (.one 4) [4] fYes (fVar 4)))
def tFor (c tm : Nat) : FS := (sFor (fRng1 (fOp dSub (fVar 1) (fC (.int 1)))) (.one 3) (tBody c tm))
theorem texts_eq : b_Manner_texts c bn tm = sSeq (tHead bn) (sSeq (tSet c) (sSeq (tFor c tm) (tEnd c))) := rfl
def ones (bs : List Nat) : List (List Nat) := bs.map fun a => [a]
theorem ones_ne {bs : List Nat} : ∀ t ∈ ones bs, t ≠ [] ∧ t.length = 1 := fun t ht => by
  obtain ⟨a, _, rfl⟩ := List.mem_map.mp ht
  exact ⟨List.cons_ne_nil _ _, rfl⟩
theorem tk_ne {n : Nat} : ∀ (k n : Nat) (ts : List (List Nat)), (∀ t ∈ ts, t ≠ [] ∧ t.length = n) → ∀ t ∈ tk q k ts, t ≠ [] ∧ t.length = n + k
  | 0, n, ts, h => h
  | k + 1, n, ts, h => fun t ht => by
    have := tk_ne (n := n) k (n + 1) (stepT q ts) (stepT_ne h) t ht
    exact ⟨this.1, by rw [this.2]; omega⟩
theorem ends_rows (M : MnV c m bs es q) {s1 s2 s3 : Option S} (ts : List (List Nat)) (hn : ∀ t ∈ ts, t ≠ [] ∧ t.length ≤ 1000) (ha : ∀ t ∈ ts, t.getLastD 0 < 128) :
    itemsL (.one 5) [some (.v (.d m)), s1, s2, s3, none, none] (fVal (fOp dIn2 (fOp dIx (fVar 5) (fNeg (fC (.int 1)))) (fAt [c] "ends" (fVar 0)))) (fOne (fVar 5)) (tds (ts.map tx)) = .ret (tds ((ts.filter fun t => decide (t.getLastD 0 ∈ es)).map tx)) := by
  rw [show tds (ts.map tx) = ts.map fun t => D.str (tx t) from List.map_map, items_pure (fun t => D.str (tx t)) (fun t => decide (t.getLastD 0 ∈ es)) (fun t => D.str (tx t)) ts (fun t ht => ?_)]
  · unfold tds
    rw [List.map_map]
    rfl
  · obtain ⟨h0, hl⟩ := hn t ht
    have e1 := last_ev h0 (by omega)
    have e2 : dIn2 (.str (on (t.getLastD 0))) (fdL es) = some (.bool (decide (t.getLastD 0 ∈ es))) := (dIn2_l _ _).trans (dNotIn_on.dIn_strs' (ha t ht) M.ae)
    obtain ⟨fs, rfl, _, h2, _⟩ := M.ob
    refine ⟨_, rfl, ?_, fun _ => ?_⟩
    · simp [-dIx_s, -dIn2_l, -List.getLastD_eq_getLast?, e1, h2, e2]
    · simp
theorem within_ev {k : Nat} (h1 : 1 ≤ k) (h2 : k ≤ 200) : f_is_within [.d (.int (k : Nat)), .d (.int 1), .d (.int 200)] = .ret (.bool true) := by
  have a1 : (1 : Int) ≤ (k : Nat) := by omega
  have a2 : ((k : Nat) : Int) ≤ 200 := by omega
  simp [f_is_within, b_is_within, f_is_integer, b_is_integer, isB, tyN, a1, a2]
theorem texts_pre (M : MnV c m bs es q) {k : Nat} (h1 : 1 ≤ k) (h2 : k ≤ 200) {kk : FS} : (sSeq (tHead bn) (sSeq (tSet c) kk)) [some (.v (.d m)), some (.v (.d (.int (k : Nat)))), none, none, none, none] = kk (tSt m k (ones bs) none) := by
  have e1 := within_ev h1 h2
  rw [seq_eq (δ' := [some (.v (.d m)), some (.v (.d (.int (k : Nat)))), none, none, none, none]) (by simp [tHead, e1])]
  refine seq_eq ?_
  obtain ⟨fs, rfl, h3, _⟩ := M.ob
  have r : itemsL (.one 4) [some (.v (.d (.obj c fs))), some (.v (.d (.int (k : Nat)))), none, none, none, none] fYes (fOne (fVar 4)) (tds (bs.map on)) = .ret (tds ((ones bs).map tx)) := by
    rw [show tds (bs.map on) = bs.map fun a => D.str (on a) from List.map_map, items_pure (fun a => D.str (on a)) (fun _ => true) (fun a => D.str (on a)) _ (fun a ha => ⟨_, rfl, rfl, fun _ => by simp⟩)]
    rw [List.filter_eq_self.mpr fun _ _ => rfl]
    unfold ones tds
    rw [List.map_map, List.map_map]
    rfl
  have l1 : bs.length ≤ 1000000 := by have := M.lb; omega
  simp [tSet, tSt, txD, noOwns, isOwn, wipeD, h3, l1, r]
theorem rng_ev {k : Nat} (h1 : 1 ≤ k) (h2 : k ≤ 200) {s2 s3 : Option S} : (fRng1 (fOp dSub (fVar 1) (fC (.int 1)))) [some (.v (.d m)), some (.v (.d (.int (k : Nat)))), s2, s3, none, none] = .ret (nums 0 (k - 1)) := by
  have a : -(2 ^ 62 : Int) ≤ (k : Nat) - 1 ∧ ((k : Nat) : Int) - 1 < 2 ^ 62 := by omega
  have b : (((k : Nat) : Int) - 1).toNat = k - 1 := by omega
  simp [b]
  omega
theorem texts_ev (M : MnV c m bs es q) {k : Nat} (h1 : 1 ≤ k) (h2 : k ≤ 200) (hf : fits q (k - 1) (ones bs)) (ha : ∀ t ∈ tk q (k - 1) (ones bs), t.getLastD 0 < 128) :
    f_Manner_texts c bn tm [.d m, .d (.int (k : Nat))] = .ret (.tuple (tds (((tk q (k - 1) (ones bs)).filter fun t => decide (t.getLastD 0 ∈ es)).map tx))) := by
  have ln : (nums 0 (k - 1)).length = k - 1 := by unfold nums; rw [List.length_map, List.length_range]
  have lb := M.lb
  obtain ⟨s3, e⟩ := tLoop_ev (tm := tm) M (k := k) (nums 0 (k - 1)) none (ones bs) 1 ones_ne (by rw [ln]; omega) (by unfold ones; rw [List.length_map]; omega) (by rw [ln]; exact hf)
  rw [ln] at e
  rw [f_Manner_texts, mk_def]
  refine (if_pos rfl).trans ?_
  rw [show startL 6 [.d m, .d (.int (k : Nat))] = [some (.v (.d m)), some (.v (.d (.int (k : Nat)))), none, none, none, none] from rfl, texts_eq, texts_pre M h1 h2]
  have ef : tFor c tm (tSt m k (ones bs) none) = .ret (.nx (tSt m k (tk q (k - 1) (ones bs)) s3)) := by
    unfold tFor
    rw [sFor_def, show (fRng1 (fOp dSub (fVar 1) (fC (.int 1)))) (tSt m k (ones bs) none) = .ret (nums 0 (k - 1)) from rng_ev h1 h2]
    exact e
  rw [seq_eq ef]
  have hne := tk_ne (q := q) (n := 1) (k - 1) 1 (ones bs) ones_ne
  have r := ends_rows M (s1 := some (.v (.d (.int (k : Nat))))) (s2 := some (.v (.d (txD (tk q (k - 1) (ones bs)))))) (s3 := s3.map (fun z => S.v (.d z))) (tk q (k - 1) (ones bs)) (fun t ht => ⟨(hne t ht).1, by rw [(hne t ht).2]; omega⟩) ha
  have l1 : (tk q (k - 1) (ones bs)).length ≤ 1000000 := by
    cases hk : k - 1 with
    | zero =>
      show (ones bs).length ≤ _
      unfold ones
      rw [List.length_map]
      omega
    | succ j =>
      have := hf j (by omega)
      rw [hk] at *
      omega
  unfold tEnd tSt
  simp [-fAt_def] at r
  simp [noOwns, isOwn, wipeD, txD, -fAt_def] at r ⊢
  simp [l1, r, -fAt_def]
theorem texts_ex (M : MnV c m bs es q) {k i : Nat} (h1 : 1 ≤ k) (h2 : k ≤ 200) (hi : i < k - 1) (hf : fits q i (ones bs)) (h5 : 5000 < (tk q (i + 1) (ones bs)).length) :
    f_Manner_texts c bn tm [.d m, .d (.int (k : Nat))] = .ex (tooMany tm) := by
  have ln : (nums 0 (k - 1)).length = k - 1 := by unfold nums; rw [List.length_map, List.length_range]
  have lb := M.lb
  obtain ⟨δ, e⟩ := tLoop_ex (tm := tm) M (k := k) i (nums 0 (k - 1)) none (ones bs) 1 ones_ne (by rw [ln]; omega) (by unfold ones; rw [List.length_map]; omega) (by rw [ln]; exact hi) hf h5
  rw [f_Manner_texts, mk_def]
  refine (if_pos rfl).trans ?_
  rw [show startL 6 [.d m, .d (.int (k : Nat))] = [some (.v (.d m)), some (.v (.d (.int (k : Nat)))), none, none, none, none] from rfl, texts_eq, texts_pre M h1 h2]
  have ef : tFor c tm (tSt m k (ones bs) none) = .ex (tooMany tm, δ) := by
    unfold tFor
    rw [sFor_def, show (fRng1 (fOp dSub (fVar 1) (fC (.int 1)))) (tSt m k (ones bs) none) = .ret (nums 0 (k - 1)) from rng_ev h1 h2]
    exact e
  rw [sSeq_def, ef]
  rfl
end Cm

namespace Cm
open PySem PySem.Spec FL
variable {c bn tm : Nat} {m : D} {bs es : List Nat} {q : List Pr}
/-- whether a text goes from a first through pairs to a last -/
def isT (bs es : List Nat) (q : List Pr) : List Nat → Bool
  | [] => false
  | a :: t => decide (a ∈ bs) && (decide ((a :: t).getLastD 0 ∈ es) && ((a :: t).zip t).all fun p => decide (p ∈ q))
/-! ### t[i:i+2] -/
theorem two_ev {t : List Nat} {i : Nat} (h : i + 1 < t.length) : L2.cutS (tx t) (some (i : Int)) (some ((i : Int) + 2)) = pt ((t.zip t.tail).getD i (0, 0)) := by
  apply str_ext
  show ((t.drop (HT.sIx t.length 0 (some (i : Int)))).take (HT.sIx t.length t.length (some ((i : Int) + 2)) - HT.sIx t.length 0 (some (i : Int)))) = _
  have e2 : ((i : Int) + 2) = ((i + 2 : Nat) : Int) := by omega
  rw [e2, HT.sIx_nat, HT.sIx_nat, show min (i + 2) t.length - min i t.length = 2 by omega, show min i t.length = i by omega]
  have hz : i < (t.zip t.tail).length := by rw [List.length_zip, List.length_tail]; omega
  rw [List.getD_eq_getElem?_getD, List.getElem?_eq_getElem hz, List.getElem_zip, List.getElem_tail]
  rw [List.drop_eq_getElem_cons (by omega : i < t.length), List.drop_eq_getElem_cons h]
  rfl
theorem range_zip {β : Type} (t : List Nat) (f : Pr → β) : (List.range (t.length - 1)).map (fun i => f ((t.zip t.tail).getD i (0, 0))) = (t.zip t.tail).map f := by
  have hl : (t.zip t.tail).length = t.length - 1 := by rw [List.length_zip, List.length_tail]; omega
  refine List.ext_getElem (by rw [List.length_map, List.length_map, List.length_range, hl]) fun i h1 h2 => ?_
  rw [List.getElem_map, List.getElem_map, List.getElem_range]
  rw [List.length_map] at h2
  rw [List.getD_eq_getElem?_getD, List.getElem?_eq_getElem h2]
  rfl
theorem range_all (t : List Nat) (f : Pr → Bool) : ((List.range (t.length - 1)).all fun i => f ((t.zip t.tail).getD i (0, 0))) = (t.zip t.tail).all f := by
  have := congrArg (fun l => l.all id) (range_zip t f)
  simp only [List.all_map] at this
  exact this
/-! ### {pair: True ..} -/
def keyed (es : List (D × D)) : Prop := ∀ p ∈ es, ∃ x : Str, p.1 = .str x
theorem look_any : ∀ {es : List (D × D)} (j : L2.Key), keyed es → (dLook es j).isSome = es.any fun p => decide (toKey p.1 = some j)
  | [], j, h => rfl
  | (k, d) :: es, j, h => by
    rw [dLook_cons, List.any_cons]
    by_cases z : toKey k = some j
    · simp [z]
    · simp [z, look_any j fun p hp => h p (List.mem_cons_of_mem _ hp)]
theorem put_any (es : List (D × D)) (x y : Str) (v : D) : ((dPutK es (.inr x) v).any fun p => decide (toKey p.1 = some (Sum.inr y))) = (decide (x = y) || es.any fun p => decide (toKey p.1 = some (Sum.inr y))) := by
  unfold dPutK
  split
  · rename_i h
    rw [List.any_map]
    have e : ((fun p : D × D => decide (toKey p.1 = some (Sum.inr y))) ∘ fun p => if toKey p.1 = some (Sum.inr x) then (p.1, v) else p) = fun p : D × D => decide (toKey p.1 = some (Sum.inr y)) := by
      funext p
      show decide (toKey (if toKey p.1 = some (Sum.inr x) then (p.1, v) else p).1 = _) = _
      split <;> rfl
    rw [e]
    by_cases z : x = y
    · subst z
      rw [h]
      simp
    · simp [z]
  · rw [List.any_append, Bool.or_comm]
    congr 1
    show (decide (toKey (keyD (Sum.inr x)) = some (Sum.inr y)) || false) = _
    rw [toKey_keyD, Bool.or_false]
    by_cases z : x = y <;> simp [z]
theorem put_keyed {es : List (D × D)} (h : keyed es) (x : Str) (v : D) : keyed (dPutK es (.inr x) v) := by
  unfold dPutK
  split
  · intro p hp
    obtain ⟨r, hr, rfl⟩ := List.mem_map.mp hp
    obtain ⟨z, hz⟩ := h r hr
    refine ⟨z, ?_⟩
    split <;> exact hz
  · intro p hp
    rcases List.mem_append.mp hp with hp | hp
    · exact h p hp
    · exact ⟨x, by rw [List.mem_singleton.mp hp]; rfl⟩
def known : List Pr → List (D × D) → List (D × D)
  | [], es => es
  | p :: ps, es => known ps (dPutK es (.inr (pt p)) (.bool true))
theorem known_any : ∀ (ps : List Pr) (es : List (D × D)) (y : Str), ((known ps es).any fun p => decide (toKey p.1 = some (Sum.inr y))) = (decide (y ∈ ps.map pt) || es.any fun p => decide (toKey p.1 = some (Sum.inr y)))
  | [], es, y => by simp [known]
  | p :: ps, es, y => by
    show ((known ps _).any _) = _
    rw [known_any ps, put_any, ← Bool.or_assoc]
    congr 1
    by_cases z : y = pt p
    · simp [z]
    · have z' : ¬ pt p = y := fun h => z h.symm
      simp [z, z']
theorem known_keyed : ∀ (ps : List Pr) (es : List (D × D)), keyed es → keyed (known ps es)
  | [], es, h => h
  | p :: ps, es, h => known_keyed ps _ (put_keyed h _ _)
theorem known_in (q : List Pr) (p : Pr) : dIn2 (.str (pt p)) (.dict (known q [])) = some (.bool (decide (p ∈ q))) := by
  rw [dIn2_d, toKey_s, Option.map_some, look_any _ (known_keyed q [] fun p hp => by cases hp), known_any]
  have e : decide (pt p ∈ q.map pt) = decide (p ∈ q) := decide_eq_decide.mpr ⟨fun h => by
    obtain ⟨r, hr, e⟩ := List.mem_map.mp h
    rw [← pt_inj.mp e]
    exact hr, fun h => List.mem_map.mpr ⟨p, h, rfl⟩⟩
  rw [e]
  simp
theorem dict_rows (δ : Sl) (h : 3 < δ.length) : ∀ (ps : List Pr) (es : List (D × D)), dictL (.one 3) δ fYes (fVar 3) (fC (.bool true)) (psD ps) es = .ret (known ps es)
  | [], es => rfl
  | p :: ps, es => by
    show (T.of (putT (.one 3) δ (.str (pt p)))).bind _ = _
    rw [putT_one, T.of_some, T.ret_bind]
    simp only [fYes_def, T.ret_bind, if_true, fVar_def, List.getElem?_set_self h, W.rd_d, toKey_s, T.of_some, fC_def, W.dat_d]
    exact dict_rows δ h ps _
/-! ### has -/
def hHead (c : Nat) : FS := (sIf (fOr (fNot (fVal (fIsi (some "str") [] (fVar 1)))) (fOr (fVal (fOp dEq (fVar 1) (fC (.str "")))) (fOr (fVal (fOp dNotIn2 (fOp dIx (fVar 1) (fC (.int 0))) (fAt [c] "begins" (fVar 0)))) (fVal (fOp dNotIn2 (fOp dIx (fVar 1) (fNeg (fC (.int 1)))) (fAt [c] "ends" (fVar 0))))))) (sRet (fC (.bool false))) sNext)
def hSet (c : Nat) : FS := (sSet 2 (fDc (fIt (fAt [c] "pairs" (fVar 0))) (.one 3) [3] fYes (fVar 3) (fC (.bool true))))
def hEnd : FS := (sRet (fCB gAll (fCons (fLc (fRng1 (fOp dSub (fCB rDicts (fCons (fVar 1) fNil)) (fC (.int 1)))) (.one 4) [4] fYes (fOp dIn2 (fSlice (fVar 1) (oPart (fVar 4)) (oPart (fOp dAdd (fVar 4) (fC (.int 2))))) (fVar 2))) fNil)))
theorem has_eq : b_Manner_has c = sSeq (hHead c) (sSeq (hSet c) hEnd) := rfl
theorem hEnd_ev {s0 : Option S} (t : List Nat) (ht : t ≠ []) (hl : t.length ≤ 1000000) (q : List Pr) : hEnd [s0, some (.v (.d (.str (tx t)))), some (.v (.d (.dict (known q [])))), none, none] = .ret (.rt (.bool ((t.zip t.tail).all fun p => decide (p ∈ q)))) := by
  have h1 : 1 ≤ t.length := List.length_pos_iff.mpr ht
  have r : itemsL (.one 4) [s0, some (.v (.d (.str (tx t)))), some (.v (.d (.dict (known q [])))), none, none] fYes (fOne (fOp dIn2 (fSlice (fVar 1) (oPart (fVar 4)) (oPart (fOp dAdd (fVar 4) (fC (.int 2))))) (fVar 2))) (nums 0 (t.length - 1)) = .ret ((List.range (t.length - 1)).map fun i => .bool (decide ((t.zip t.tail).getD i (0, 0) ∈ q))) := by
    unfold nums
    rw [items_pure (fun i : Nat => D.int (0 + (i : Int))) (fun _ => true) (fun i => .bool (decide ((t.zip t.tail).getD i (0, 0) ∈ q))) _ (fun i hi => ⟨_, rfl, rfl, fun _ => ?_⟩)]
    · rw [List.filter_eq_self.mpr fun _ _ => rfl]
    · have hi' : i + 1 < t.length := by have := List.mem_range.mp hi; omega
      have e1 := two_ev hi'
      have e2 := known_in q ((t.zip t.tail).getD i (0, 0))
      have l1 : (tx t).length ≤ 1000000 := hl
      simp only [Int.zero_add]
      simp [-dIn2_d, -List.getD_eq_getElem?_getD, l1, e1, e2]
  have e3 := gAll_map (fun i : Nat => decide ((t.zip t.tail).getD i (0, 0) ∈ q)) (List.range (t.length - 1))
  rw [range_all t fun p => decide (p ∈ q)] at e3
  have l1 : (tx t).length ≤ 1000000 := hl
  have l2 : (tx t).length = t.length := rfl
  have a : -(2 ^ 62 : Int) ≤ (t.length : Nat) - 1 ∧ ((t.length : Nat) : Int) - 1 < 2 ^ 62 := by omega
  have b : (((t.length : Nat) : Int) - 1).toNat = t.length - 1 := by omega
  have l3 : (nums 0 (t.length - 1)).length ≤ 1000000 := by unfold nums; rw [List.length_map, List.length_range]; omega
  unfold hEnd
  simp [noOwns, isOwn, wipeD, l1, l2, hl]
  rw [if_pos (by omega), T.ret_bind, if_pos l3, r]
  simp [e3, -List.getD_eq_getElem?_getD]
theorem has_ev (M : MnV c m bs es q) {t : List Nat} (hl : t.length ≤ 1000000) (ha : ∀ a ∈ t, a < 128) : f_Manner_has c [.d m, .d (.str (tx t))] = .ret (.bool (isT bs es q t)) := by
  obtain ⟨fs, rfl, h1, h2, h3, _⟩ := M.ob
  rw [f_Manner_has, mk_def]
  refine (if_pos rfl).trans ?_
  rw [show startL 5 [.d (.obj c fs), .d (.str (tx t))] = [some (.v (.d (.obj c fs))), some (.v (.d (.str (tx t)))), none, none, none] from rfl, has_eq]
  cases t with
  | nil =>
    have e : (tx [] : Str) = ("" : Str) := rfl
    simp [hHead, e, isB, tyN, isT]
  | cons a t =>
    have e0 : ¬ (tx (a :: t) = ("" : Str)) := fun z => absurd (tx_inj (a := a :: t) (b := []).mp z) (List.cons_ne_nil _ _)
    have e1 := first_ev hl
    have e2 := last_ev (List.cons_ne_nil a t) hl
    have ea := ha a (List.mem_cons_self ..)
    have ez : (a :: t).getLastD 0 < 128 := by
      rw [List.getLastD_eq_getLast?, List.getLast?_eq_some_getLast (List.cons_ne_nil a t)]
      exact ha _ (List.getLast_mem _)
    have e3 := dNotIn_on ea M.ab
    have e4 := dNotIn_on ez M.ae
    by_cases g1 : a ∈ bs
    · by_cases g2 : (a :: t).getLastD 0 ∈ es
      · have lq : q.length ≤ 1000000 := by have := M.lq; omega
        rw [seq_eq (δ' := [some (.v (.d (.obj c fs))), some (.v (.d (.str (tx (a :: t))))), none, none, none]) (by
          simp only [g1, decide_true, Bool.not_true] at e3
          simp only [g2, decide_true, Bool.not_true] at e4
          simp [hHead, isB, tyN, -dIx_s, -dNotIn2_def, -List.getLastD_eq_getLast?, e0, e1, e2, e3, e4, h1, h2])]
        rw [seq_eq (δ' := [some (.v (.d (.obj c fs))), some (.v (.d (.str (tx (a :: t))))), some (.v (.d (.dict (known q [])))), none, none]) (by
          have r := dict_rows [some (.v (.d (.obj c fs))), some (.v (.d (.str (tx (a :: t))))), none, none, none] (Nat.lt_of_sub_eq_succ rfl) q []
          simp [hSet, noOwns, isOwn, wipeD, h3, lq, r])]
        rw [hEnd_ev (a :: t) (List.cons_ne_nil _ _) hl q]
        simp only [isT, g1, g2, decide_true, Bool.true_and]
        rfl
      · simp only [g1, decide_true, Bool.not_true] at e3
        simp only [g2, decide_false, Bool.not_false] at e4
        simp only [isT, g1, g2]
        simp [hHead, isB, tyN, -dIx_s, -dNotIn2_def, -List.getLastD_eq_getLast?, e0, e1, e2, e3, e4, h1, h2]
    · simp only [g1, decide_false, Bool.not_false] at e3
      simp only [isT, g1]
      simp [hHead, isB, tyN, -dIx_s, -dNotIn2_def, -List.getLastD_eq_getLast?, e0, e1, e3, h1]
end Cm

namespace Cm
open PySem PySem.Spec FL
/-! ### plain: what counts of a manner changes no text -/
/-- closed under pairs -/
theorem led_closed {ps : List Pr} {U : List Nat} (g : Good ps) (hn : U.Nodup) (hU : ∀ p ∈ ps, p.2 ∈ U) : ∀ (k : Nat) (found : List Nat) (at_ : Nat), Fd ps U found → at_ ≤ found.length → U.length + 1 ≤ at_ + k → (∀ i, i < at_ → ∀ x, found[i]? = some x → ∀ p ∈ ps, p.1 = x → p.2 ∈ found) →
    ∀ p ∈ ps, p.1 ∈ led ps k found at_ → p.2 ∈ led ps k found at_
  | 0, found, at_, h, h1, h2, hc => absurd (h.len hn) (by omega)
  | k + 1, found, at_, h, h1, h2, hc => by
    unfold led
    cases e : found[at_]? with
    | none =>
      simp only
      intro p hp hm
      obtain ⟨i, hi, ei⟩ := List.mem_iff_getElem.mp hm
      have : found.length ≤ at_ := List.getElem?_eq_none_iff.mp e
      exact hc i (by omega) p.1 (by rw [List.getElem?_eq_getElem hi, ei]) p hp rfl
    | some x =>
      simp only
      have hlt : at_ < found.length := (List.getElem?_eq_some_iff.mp e).1
      refine led_closed g hn hU k _ (at_ + 1) (h.step g hU x) (by rw [List.length_append]; omega) (by omega) fun i hi y hy p hp hpy => ?_
      by_cases hi2 : i < at_
      · rw [List.getElem?_append_left (by omega)] at hy
        exact List.mem_append_left _ (hc i hi2 y hy p hp hpy)
      · have ei : i = at_ := by omega
        subst ei
        rw [List.getElem?_append_left hlt, e] at hy
        cases hy
        by_cases hm : p.2 ∈ found
        · exact List.mem_append_left _ hm
        · refine List.mem_append_right _ (List.mem_map.mpr ⟨p, List.mem_filter.mpr ⟨hp, ?_⟩, rfl⟩)
          simp [hpy, hm]
def inQ (q : List Pr) (t : List Nat) : Bool := (t.zip t.tail).all fun p => decide (p ∈ q)
theorem isT_def (bs es : List Nat) (q : List Pr) (a : Nat) (t : List Nat) : isT bs es q (a :: t) = (decide (a ∈ bs) && (decide ((a :: t).getLastD 0 ∈ es) && inQ q (a :: t))) := rfl
/-- from a sign that is reached all signs of a way are -/
theorem way_fwd {ps : List Pr} {A : List Nat} (hA : ∀ p ∈ ps, p.1 ∈ A → p.2 ∈ A) : ∀ t : List Nat, inQ ps t = true → (∀ a ∈ t.head?, a ∈ A) → ∀ a ∈ t, a ∈ A
  | [], _, _, a, h => by cases h
  | [b], _, hd, a, h => by
    rw [List.mem_singleton.mp h]
    exact hd b rfl
  | b :: d :: t, hq, hd, a, h => by
    have e : inQ ps (b :: d :: t) = (decide ((b, d) ∈ ps) && inQ ps (d :: t)) := rfl
    rw [e, Bool.and_eq_true_iff] at hq
    have hb : b ∈ A := hd b rfl
    rcases List.mem_cons.mp h with rfl | h
    · exact hb
    · exact way_fwd hA (d :: t) hq.2 (fun z hz => by cases hz; exact hA (b, d) (of_decide_eq_true hq.1) hb) a h
theorem way_bwd {ps : List Pr} {B : List Nat} (hB : ∀ p ∈ ps, p.2 ∈ B → p.1 ∈ B) : ∀ t : List Nat, inQ ps t = true → t ≠ [] → t.getLastD 0 ∈ B → ∀ a ∈ t, a ∈ B
  | [], _, hn, _, a, h => by cases h
  | [b], _, _, hl, a, h => by
    rw [List.mem_singleton.mp h]
    exact hl
  | b :: d :: t, hq, _, hl, a, h => by
    have e : inQ ps (b :: d :: t) = (decide ((b, d) ∈ ps) && inQ ps (d :: t)) := rfl
    rw [e, Bool.and_eq_true_iff] at hq
    have ih := way_bwd hB (d :: t) hq.2 (List.cons_ne_nil _ _) hl
    rcases List.mem_cons.mp h with rfl | h
    · exact hB (a, d) (of_decide_eq_true hq.1) (ih d (List.mem_cons_self ..))
    · exact ih a h
theorem inQ_mono {q r : List Pr} {t : List Nat} (h : ∀ p ∈ t.zip t.tail, p ∈ q → p ∈ r) (hq : inQ q t = true) : inQ r t = true := List.all_eq_true.mpr fun p hp => decide_eq_true (h p hp (of_decide_eq_true (List.all_eq_true.mp hq p hp)))
def psL (ps : List Pr) (ls : List Nat) : List Pr := ps.filter fun p => decide (p.1 ∈ ls) && decide (p.2 ∈ ls)
theorem mem_psL {ps : List Pr} {ls : List Nat} {p : Pr} : p ∈ psL ps ls ↔ p ∈ ps ∧ p.1 ∈ ls ∧ p.2 ∈ ls := by
  unfold psL
  rw [List.mem_filter, Bool.and_eq_true_iff, decide_eq_true_eq, decide_eq_true_eq]
theorem mem_both {a b : List Nat} {c : Nat} : c ∈ both a b ↔ c ∈ a ∧ c ∈ b := by
  unfold both
  rw [List.mem_filter, decide_eq_true_eq]
theorem mem_useful {x y : List Nat} {ps : List Pr} {c : Nat} : c ∈ useful x y ps ↔ c ∈ led ps NN x 0 ∧ c ∈ led (sw ps) NN y 0 := by
  unfold useful
  have h1 := (sortS_perm ((both (led ps NN x 0) (led (sw ps) NN y 0)).map on)).mem_iff (a := on c)
  rw [sortN_on, mem_on, mem_on] at h1
  rw [h1, mem_both]
theorem mem_zip_tail {t : List Nat} {p : Pr} (h : p ∈ t.zip t.tail) : p.1 ∈ t ∧ p.2 ∈ t := ⟨(List.of_mem_zip h).1, List.mem_of_mem_tail (List.of_mem_zip h).2⟩
/-- what counts tells the same texts -/
theorem isT_useful {U x y : List Nat} {ps : List Pr} (h : Fine U x y ps) (t : List Nat) : isT (both x (useful x y ps)) (both y (useful x y ps)) (psL ps (useful x y ps)) t = isT x y ps t := by
  cases t with
  | nil => rfl
  | cons a t =>
    rw [Bool.eq_iff_iff, isT_def, isT_def]
    simp only [Bool.and_eq_true_iff, decide_eq_true_eq]
    constructor
    · rintro ⟨h1, h2, h3⟩
      exact ⟨(mem_both.mp h1).1, (mem_both.mp h2).1, inQ_mono (fun p _ hp => (mem_psL.mp hp).1) h3⟩
    · rintro ⟨h1, h2, h3⟩
      have hl := h.ul
      have cA := led_closed h.g h.un h.p2 NN x 0 h.fx (Nat.zero_le _) (by unfold NN; omega) (fun i hi => absurd hi (Nat.not_lt_zero _))
      have cB := led_closed h.gs h.un (sw_2 h) NN y 0 h.fy (Nat.zero_le _) (by unfold NN; omega) (fun i hi => absurd hi (Nat.not_lt_zero _))
      have fA := way_fwd (A := led ps NN x 0) cA (a :: t) h3 (fun z hz => by cases hz; exact led_pre _ _ _ _ h1)
      have fB := way_bwd (B := led (sw ps) NN y 0) (fun p hp hm => cB (p.2, p.1) (List.mem_map.mpr ⟨p, hp, rfl⟩) hm) (a :: t) h3 (List.cons_ne_nil _ _) (led_pre _ _ _ _ h2)
      have fU : ∀ z ∈ a :: t, z ∈ useful x y ps := fun z hz => mem_useful.mpr ⟨fA z hz, fB z hz⟩
      have hz : (a :: t).getLastD 0 ∈ a :: t := by
        rw [List.getLastD_eq_getLast?, List.getLast?_eq_some_getLast (List.cons_ne_nil a t)]
        exact List.getLast_mem _
      exact ⟨mem_both.mpr ⟨h1, fU a (List.mem_cons_self ..)⟩, mem_both.mpr ⟨h2, fU _ hz⟩, inQ_mono (fun p hp hq => mem_psL.mpr ⟨hq, fU _ (mem_zip_tail hp).1, fU _ (mem_zip_tail hp).2⟩) h3⟩
/-! ### all strings of so many letters -/
def wordsN (L : List Nat) : List (List Nat) → List (List Nat) := fun ts => ts.flatMap fun t => L.map fun a => t ++ [a]
theorem inQ_snoc (q : List Pr) : ∀ (t : List Nat) (a : Nat), t ≠ [] → inQ q (t ++ [a]) = (inQ q t && decide ((t.getLastD 0, a) ∈ q))
  | [], _, h => absurd rfl h
  | [b], a, _ => by
    show (decide ((b, a) ∈ q) && true) = (true && decide ((b, a) ∈ q))
    rw [Bool.and_true, Bool.true_and]
  | b :: d :: t, a, _ => by
    show (decide ((b, d) ∈ q) && inQ q (d :: t ++ [a])) = ((decide ((b, d) ∈ q) && inQ q (d :: t)) && _)
    rw [inQ_snoc q (d :: t) a (List.cons_ne_nil _ _), Bool.and_assoc]
    rfl
def pathB (bs : List Nat) (q : List Pr) (t : List Nat) : Bool := decide (t.headD 0 ∈ bs) && inQ q t
theorem pathB_snoc (bs : List Nat) (q : List Pr) (t : List Nat) (a : Nat) (h : t ≠ []) : pathB bs q (t ++ [a]) = (pathB bs q t && decide ((t.getLastD 0, a) ∈ q)) := by
  unfold pathB
  rw [inQ_snoc q t a h, Bool.and_assoc]
  cases t with
  | nil => exact absurd rfl h
  | cons b t => rfl
/-- pairs of letters, ascending, tell what can follow in the letters' order -/
theorem asc_ext : ∀ {xs ys : List Nat}, xs.Pairwise (· < ·) → ys.Pairwise (· < ·) → (∀ a, a ∈ xs ↔ a ∈ ys) → xs = ys
  | [], [], _, _, _ => rfl
  | [], b :: ys, _, _, h => by have := (h b).mpr (List.mem_cons_self ..); cases this
  | a :: xs, [], _, _, h => by have := (h a).mp (List.mem_cons_self ..); cases this
  | a :: xs, b :: ys, hx, hy, h => by
    obtain ⟨x1, x2⟩ := List.pairwise_cons.mp hx
    obtain ⟨y1, y2⟩ := List.pairwise_cons.mp hy
    have e : a = b := by
      have h1 := (h a).mp (List.mem_cons_self ..)
      have h2 := (h b).mpr (List.mem_cons_self ..)
      rcases List.mem_cons.mp h1 with h1 | h1
      · exact h1
      · rcases List.mem_cons.mp h2 with h2 | h2
        · exact h2.symm
        · have := x1 b h2
          have := y1 a h1
          omega
    subst e
    congr 1
    refine asc_ext x2 y2 fun z => ?_
    have hz := h z
    rw [List.mem_cons, List.mem_cons] at hz
    constructor
    · intro m
      rcases hz.mp (.inr m) with e | m'
      · subst e; have := x1 z m; omega
      · exact m'
    · intro m
      rcases hz.mpr (.inr m) with e | m'
      · subst e; have := y1 z m; omega
      · exact m'
theorem nextTo_eq {q : List Pr} {L : List Nat} (g : Good q) (hL : L.Pairwise (· < ·)) (hq : ∀ p ∈ q, p.2 ∈ L) (a : Nat) : nextTo q a = L.filter fun b => decide ((a, b) ∈ q) := by
  refine asc_ext (g a) (hL.filter _) fun b => ?_
  unfold nextTo
  rw [List.mem_map, List.mem_filter, decide_eq_true_eq]
  constructor
  · rintro ⟨p, hp, rfl⟩
    obtain ⟨h1, h2⟩ := List.mem_filter.mp hp
    have e : p.1 = a := of_decide_eq_true h2
    exact ⟨hq p h1, by rw [← e]; exact h1⟩
  · rintro ⟨_, h⟩
    exact ⟨(a, b), List.mem_filter.mpr ⟨h, decide_eq_true rfl⟩, rfl⟩
theorem filter_flatMap {α β : Type} (f : α → List β) (p : β → Bool) : ∀ xs : List α, (xs.flatMap f).filter p = xs.flatMap fun x => (f x).filter p
  | [] => rfl
  | x :: xs => by rw [List.flatMap_cons, List.filter_append, filter_flatMap f p xs, List.flatMap_cons]
theorem flatMap_filter {α β : Type} (f : α → List β) (p : α → Bool) : ∀ xs : List α, (xs.filter p).flatMap f = xs.flatMap fun x => if p x = true then f x else []
  | [] => rfl
  | x :: xs => by
    rw [List.filter_cons, List.flatMap_cons]
    by_cases h : p x = true
    · rw [if_pos h, if_pos h, List.flatMap_cons, flatMap_filter f p xs]
    · rw [if_neg h, if_neg h, flatMap_filter f p xs]
      rfl
/-- a step of texts is a step of all strings -/
theorem stepT_words {bs L : List Nat} {q : List Pr} (g : Good q) (hL : L.Pairwise (· < ·)) (hq : ∀ p ∈ q, p.2 ∈ L) {ts : List (List Nat)} (hn : ∀ t ∈ ts, t ≠ []) : stepT q (ts.filter (pathB bs q)) = (wordsN L ts).filter (pathB bs q) := by
  unfold stepT wordsN
  rw [filter_flatMap, flatMap_filter]
  have key : ∀ t ∈ ts, (if pathB bs q t = true then (nextTo q (t.getLastD 0)).map (fun a => t ++ [a]) else []) = (L.map fun a => t ++ [a]).filter (pathB bs q) := fun t ht => by
    have h0 := hn t ht
    rw [List.filter_map]
    have e : (pathB bs q ∘ fun a => t ++ [a]) = fun a => pathB bs q t && decide ((t.getLastD 0, a) ∈ q) := funext fun a => pathB_snoc bs q t a h0
    rw [e]
    by_cases h : pathB bs q t = true
    · rw [if_pos h, nextTo_eq g hL hq, h]
      simp only [Bool.true_and]
    · rw [if_neg h]
      have h' : pathB bs q t = false := by simpa using h
      simp [h']
  rw [List.flatMap_def, List.flatMap_def, List.map_congr_left key]
def wordsK (L : List Nat) : Nat → List (List Nat) → List (List Nat)
  | 0, ts => ts
  | k + 1, ts => wordsK L k (wordsN L ts)
theorem wordsN_ne {L : List Nat} {ts : List (List Nat)} : ∀ t ∈ wordsN L ts, t ≠ [] := fun t ht => by
  obtain ⟨u, _, h⟩ := List.mem_flatMap.mp ht
  obtain ⟨a, _, rfl⟩ := List.mem_map.mp h
  simp
theorem tk_words {bs L : List Nat} {q : List Pr} (g : Good q) (hL : L.Pairwise (· < ·)) (hq : ∀ p ∈ q, p.2 ∈ L) : ∀ (k : Nat) (ts : List (List Nat)), (∀ t ∈ ts, t ≠ []) → tk q k (ts.filter (pathB bs q)) = (wordsK L k ts).filter (pathB bs q)
  | 0, ts, _ => rfl
  | k + 1, ts, h => by
    show tk q k (stepT q (ts.filter (pathB bs q))) = _
    rw [stepT_words g hL hq h, tk_words g hL hq k _ wordsN_ne]
    rfl
theorem ones_words {bs L : List Nat} {q : List Pr} (h : bs = L.filter fun a => decide (a ∈ bs)) : ones bs = (ones L).filter (pathB bs q) := by
  unfold ones
  rw [List.filter_map]
  have e : (pathB bs q ∘ fun a => [a]) = fun a => decide (a ∈ bs) := funext fun a => by
    show (decide (a ∈ bs) && true) = _
    rw [Bool.and_true]
  rw [e, ← h]
theorem sub_filter {bs L : List Nat} (hL : L.Pairwise (· < ·)) (hb : bs.Sublist L) : bs = L.filter fun a => decide (a ∈ bs) :=
  asc_ext (hL.sublist hb) (hL.filter _) fun a => by
    rw [List.mem_filter, decide_eq_true_eq]
    exact ⟨fun h => ⟨hb.subset h, h⟩, fun h => h.2⟩
/-- the strings of some letters, by own steps, that are texts -/
theorem tk_isT {bs es L : List Nat} {q : List Pr} (g : Good q) (hL : L.Pairwise (· < ·)) (hq : ∀ p ∈ q, p.2 ∈ L) (hb : bs.Sublist L) (k : Nat) : (tk q k (ones bs)).filter (fun t => decide (t.getLastD 0 ∈ es)) = (wordsK L k (ones L)).filter (isT bs es q) := by
  rw [ones_words (q := q) (sub_filter hL hb), tk_words g hL hq k (ones L) fun t ht => (ones_ne t ht).1, List.filter_filter]
  have hne : ∀ (k : Nat) (ts : List (List Nat)), (∀ t ∈ ts, t ≠ []) → ∀ t ∈ wordsK L k ts, t ≠ [] := fun k => by
    induction k with
    | zero => exact fun ts h => h
    | succ k ih => exact fun ts h => ih _ wordsN_ne
  refine List.filter_congr fun t ht => ?_
  cases t with
  | nil => exact absurd rfl (hne k (ones L) (fun t ht => (ones_ne t ht).1) _ ht)
  | cons a t =>
    rw [isT_def]
    show (decide ((a :: t).getLastD 0 ∈ es) && (decide (a ∈ bs) && inQ q (a :: t))) = _
    rw [← Bool.and_assoc, Bool.and_comm (decide _) (decide (a ∈ bs)), Bool.and_assoc]
end Cm

namespace Cm
open PySem PySem.Spec FL
/-! ### pairs of some letters; manners that are drawn -/
def rowP (M L : List Nat) : List Pr := M.flatMap fun a => L.map fun b => (a, b)
def allP (L : List Nat) : List Pr := rowP L L
theorem mem_rowP {M L : List Nat} {p : Pr} : p ∈ rowP M L ↔ p.1 ∈ M ∧ p.2 ∈ L := by
  unfold rowP
  rw [List.mem_flatMap]
  constructor
  · rintro ⟨a, ha, h⟩
    obtain ⟨b, hb, rfl⟩ := List.mem_map.mp h
    exact ⟨ha, hb⟩
  · rintro ⟨h1, h2⟩
    exact ⟨p.1, h1, List.mem_map.mpr ⟨p.2, h2, rfl⟩⟩
theorem rowP_len (M L : List Nat) : (rowP M L).length = M.length * L.length := by
  induction M with
  | nil => simp [rowP]
  | cons a M ih =>
    have e : rowP (a :: M) L = L.map (fun b => (a, b)) ++ rowP M L := rfl
    rw [e, List.length_append, ih, List.length_map, List.length_cons, Nat.succ_mul, Nat.add_comm]
/-- first by the one, then by the other -/
def lexP (p q : Pr) : Prop := p.1 < q.1 ∨ (p.1 = q.1 ∧ p.2 < q.2)
theorem rowP_asc {M L : List Nat} (hM : M.Pairwise (· < ·)) (hL : L.Pairwise (· < ·)) : (rowP M L).Pairwise lexP := by
  induction M with
  | nil => exact .nil
  | cons a M ih =>
    obtain ⟨h1, h2⟩ := List.pairwise_cons.mp hM
    refine List.pairwise_append.mpr ⟨?_, ih h2, fun p hp q hq => ?_⟩
    · exact List.pairwise_map.mpr (hL.imp fun h => .inr ⟨rfl, h⟩)
    · obtain ⟨b, _, rfl⟩ := List.mem_map.mp hp
      exact .inl (h1 _ (mem_rowP.mp hq).1)
theorem good_lex {ps : List Pr} (h : ps.Pairwise lexP) : Good ps := fun x => by
  refine List.pairwise_map.mpr (List.Pairwise.imp_of_mem (fun {a b} ha hb r => ?_) (h.filter _))
  have e1 : a.1 = x := by simpa using (List.mem_filter.mp ha).2
  have e2 : b.1 = x := by simpa using (List.mem_filter.mp hb).2
  rcases r with r | r
  · omega
  · exact r.2
theorem goodS_lex {ps : List Pr} (h : ps.Pairwise lexP) : Good (sw ps) := fun x => by
  unfold sw
  rw [List.filter_map, List.map_map]
  refine List.pairwise_map.mpr (List.Pairwise.imp_of_mem (fun {a b} ha hb r => ?_) (h.filter _))
  have e1 : a.2 = x := by simpa using (List.mem_filter.mp ha).2
  have e2 : b.2 = x := by simpa using (List.mem_filter.mp hb).2
  rcases r with r | r
  · exact r
  · omega
theorem ascS_of {xs : List Str} (h : xs.Pairwise fun a b => ltB a b = true) : ascS xs = true := by
  induction xs with
  | nil => rfl
  | cons a xs ih =>
    cases xs with
    | nil => rfl
    | cons b xs =>
      obtain ⟨h1, h2⟩ := List.pairwise_cons.mp h
      have e : ascS (a :: b :: xs) = (ltB a b && ascS (b :: xs)) := rfl
      rw [e, ih h2, h1 b (List.mem_cons_self ..)]
      rfl
theorem ltB_on {a b : Nat} (h : a < b) : ltB (on a) (on b) = true := decide_eq_true (show [a] < [b] from List.cons_lt_cons_iff.mpr (.inl h))
theorem ltB_pt {p q : Pr} (h : lexP p q) : ltB (pt p) (pt q) = true := by
  refine decide_eq_true (show [p.1, p.2] < [q.1, q.2] from ?_)
  rw [List.cons_lt_cons_iff]
  rcases h with h | ⟨h1, h2⟩
  · exact .inl h
  · exact .inr ⟨h1, List.cons_lt_cons_iff.mpr (.inl h2)⟩
theorem lexP_of {p q : Pr} (h : leS (pt p) (pt q)) (ne : p ≠ q) : lexP p q := by
  have h' : ¬ ([q.1, q.2] < [p.1, p.2]) := List.not_lt.mpr h
  rw [List.cons_lt_cons_iff, List.cons_lt_cons_iff] at h'
  by_cases h1 : p.1 < q.1
  · exact .inl h1
  · by_cases h2 : q.1 < p.1
    · exact absurd (.inl h2) h'
    · have e : p.1 = q.1 := by omega
      refine .inr ⟨e, ?_⟩
      by_cases h3 : p.2 < q.2
      · exact h3
      · by_cases h4 : q.2 < p.2
        · exact absurd (.inr ⟨e.symm, .inl h4⟩) h'
        · exact absurd (Prod.ext e (by omega)) ne
theorem okL_of {cs : List Nat} (h : cs.Pairwise (· < ·)) (ha : ∀ c ∈ cs, isL c = true) : okL cs = true := by
  unfold okL
  rw [List.all_eq_true.mpr fun c hc => ha c hc, ascS_of (List.pairwise_map.mpr (h.imp ltB_on))]
  rfl
theorem okP_of {ps : List Pr} (h : ps.Pairwise lexP) (ha : ∀ p ∈ ps, isL p.1 = true ∧ isL p.2 = true) : okP (ps.map pt) = true := by
  unfold okP
  rw [List.all_map, List.all_map, ascS_of (List.pairwise_map.mpr (h.imp ltB_pt)), List.all_eq_true.mpr (fun p hp => ?_), List.all_eq_true.mpr (fun p hp => ?_)]
  · rfl
  · show ([p.1, p.2].all isL) = true
    simp [(ha p hp).1, (ha p hp).2]
  · rfl
/-- what is drawn -/
structure Round (L x y : List Nat) (ps : List Pr) : Prop where
  la : L.Pairwise (· < ·)
  ls : ∀ c ∈ L, isL c = true
  ll : L.length ≤ 9
  xs : x.Sublist L
  ys : y.Sublist L
  pa : ps.Pairwise lexP
  pm : ∀ p ∈ ps, p.1 ∈ L ∧ p.2 ∈ L
theorem lex_nodup {ps : List Pr} (h : ps.Pairwise lexP) : ps.Nodup := h.imp fun r z => by
  subst z
  rcases r with r | r <;> omega
theorem Round.pl {L x y : List Nat} {ps : List Pr} (h : Round L x y ps) : ps.length ≤ 100 := by
  have h1 : ps.length ≤ (allP L).length := (lex_nodup h.pa).length_le_of_subset fun p hp => mem_rowP.mpr (h.pm p hp)
  have h2 : L.length * L.length ≤ 9 * 9 := Nat.mul_le_mul h.ll h.ll
  have h3 : (allP L).length = L.length * L.length := rowP_len L L
  omega
theorem Round.fine {L x y : List Nat} {ps : List Pr} (h : Round L x y ps) : Fine L x y ps where
  g := good_lex h.pa
  gs := goodS_lex h.pa
  un := asc_nodup h.la
  ul := Nat.le_trans h.ll (by decide)
  ua := fun c hc => isL_lt (h.ls c hc)
  p1 := fun p hp => (h.pm p hp).1
  p2 := fun p hp => (h.pm p hp).2
  pl := by have := h.pl; omega
  fx := ⟨asc_nodup (h.la.sublist h.xs), fun c hc => h.xs.subset hc⟩
  fy := ⟨asc_nodup (h.la.sublist h.ys), fun c hc => h.ys.subset hc⟩
  ox := okL_of (h.la.sublist h.xs) fun c hc => h.ls c (h.xs.subset hc)
  oy := okL_of (h.la.sublist h.ys) fun c hc => h.ls c (h.ys.subset hc)
  op := okP_of h.pa fun p hp => ⟨h.ls _ (h.pm p hp).1, h.ls _ (h.pm p hp).2⟩
/-- a letter of a text counts -/
theorem useful_of {U x y : List Nat} {ps : List Pr} (h : Fine U x y ps) {t : List Nat} (ht : isT x y ps t = true) : ∀ a ∈ t, a ∈ useful x y ps := by
  cases t with
  | nil => cases ht
  | cons b t =>
    rw [← isT_useful h] at ht
    rw [isT_def] at ht
    simp only [Bool.and_eq_true_iff, decide_eq_true_eq] at ht
    obtain ⟨h1, h2, h3⟩ := ht
    exact way_fwd (A := useful x y ps) (fun p hp _ => (mem_psL.mp hp).2.2) (b :: t) h3 (fun z hz => by cases hz; exact (mem_both.mp h1).2) |> fun k a ha => by
      refine way_fwd (ps := psL ps (useful x y ps)) (A := useful x y ps) (fun p hp _ => (mem_psL.mp hp).2.2) (b :: t) h3 (fun z hz => by cases hz; exact (mem_both.mp h1).2) a ha
/-! ### sorted -/
theorem perm_on {ys : List Str} {cs : List Nat} (p : ys.Perm (cs.map on)) : ∃ ds : List Nat, ys = ds.map on ∧ ds.Perm cs := by
  have h2 := p.map (fun s : Str => s.cps.toList.getD 0 0)
  rw [List.map_map] at h2
  have e : ((fun s : Str => s.cps.toList.getD 0 0) ∘ on) = id := rfl
  rw [e, List.map_id] at h2
  refine ⟨_, ?_, h2⟩
  rw [List.map_map]
  have : ∀ d ∈ ys, (on ∘ fun s : Str => s.cps.toList.getD 0 0) d = d := fun d hd => by
    obtain ⟨x, _, rfl⟩ := List.mem_map.mp (p.subset hd)
    rfl
  exact (List.map_id' ys).symm.trans (List.map_congr_left fun d hd => (this d hd).symm)
theorem perm_pt {ys : List Str} {ps : List Pr} (p : ys.Perm (ps.map pt)) : ∃ qs : List Pr, ys = qs.map pt ∧ qs.Perm ps := by
  have h2 := p.map (fun s : Str => (s.cps.toList.getD 0 0, s.cps.toList.getD 1 0))
  rw [List.map_map] at h2
  have e : ((fun s : Str => (s.cps.toList.getD 0 0, s.cps.toList.getD 1 0)) ∘ pt) = id := rfl
  rw [e, List.map_id] at h2
  refine ⟨_, ?_, h2⟩
  rw [List.map_map]
  have : ∀ d ∈ ys, (pt ∘ fun s : Str => (s.cps.toList.getD 0 0, s.cps.toList.getD 1 0)) d = d := fun d hd => by
    obtain ⟨x, _, rfl⟩ := List.mem_map.mp (p.subset hd)
    rfl
  exact (List.map_id' ys).symm.trans (List.map_congr_left fun d hd => (this d hd).symm)
theorem sub_on {ys : List Str} {cs : List Nat} (p : ys.Sublist (cs.map on)) : ∃ ds : List Nat, ys = ds.map on ∧ ds.Sublist cs := by
  obtain ⟨ds, h1, rfl⟩ := List.sublist_map_iff.mp p
  exact ⟨ds, rfl, h1⟩
theorem sub_tds {es : List D} {xs : List Str} (p : es.Sublist (tds xs)) : ∃ ys : List Str, es = tds ys ∧ ys.Sublist xs := by
  obtain ⟨ys, h1, rfl⟩ := List.sublist_map_iff.mp (show es.Sublist (xs.map D.str) from p)
  exact ⟨ys, rfl, h1⟩
theorem sub_pt {ys : List Str} {cs : List Pr} (p : ys.Sublist (cs.map pt)) : ∃ ds : List Pr, ys = ds.map pt ∧ ds.Sublist cs := by
  obtain ⟨ds, h1, rfl⟩ := List.sublist_map_iff.mp p
  exact ⟨ds, rfl, h1⟩
theorem sortN_asc {cs : List Nat} (h : cs.Nodup) : (sortN cs).Pairwise (· < ·) := by
  have h1 := sortS_pw (cs.map on)
  rw [sortN_on, List.pairwise_map] at h1
  have h2 := (sortS_perm (cs.map on)).nodup_iff.mpr (on_nodup h)
  rw [sortN_on] at h2
  have h3 : (sortN cs).Nodup := (List.pairwise_map.mp h2).imp fun q z => q (by rw [z])
  have h4 := List.Pairwise.and h1 h3
  exact h4.imp fun ⟨a, b⟩ => Nat.lt_of_le_of_ne (leS_on.mp a) b
theorem sortN_mem {cs : List Nat} {c : Nat} : c ∈ sortN cs ↔ c ∈ cs := by
  have h1 := (sortS_perm (cs.map on)).mem_iff (a := on c)
  rw [sortN_on, mem_on, mem_on] at h1
  exact h1
/-- sorted pairs -/
theorem sortP {ps : List Pr} (nd : ps.Nodup) : ∃ qs : List Pr, sortS (ps.map pt) = qs.map pt ∧ qs.Perm ps ∧ qs.Pairwise lexP := by
  obtain ⟨qs, e, p⟩ := perm_pt (sortS_perm (ps.map pt))
  refine ⟨qs, e, p, ?_⟩
  have h1 := sortS_pw (ps.map pt)
  rw [e, List.pairwise_map] at h1
  have h2 : qs.Nodup := p.nodup_iff.mpr nd
  exact (List.Pairwise.and h1 h2).imp fun ⟨a, b⟩ => lexP_of a b
/-- sorted letters, each once -/
theorem sset_on (cs : List Nat) : ∃ x : List Nat, sortS (uniqS (cs.map on)) = x.map on ∧ x.Pairwise (· < ·) ∧ ∀ c, c ∈ x ↔ c ∈ cs := by
  have hm : ∀ k, k ∈ uniqS (cs.map on) ↔ k ∈ cs.map on := uniqS_mem _
  have hp := sortS_perm (uniqS (cs.map on))
  obtain ⟨x, e⟩ : ∃ x : List Nat, sortS (uniqS (cs.map on)) = x.map on := by
    have : ∀ ys : List Str, (∀ k ∈ ys, k ∈ cs.map on) → ∃ x : List Nat, ys = x.map on := fun ys => by
      induction ys with
      | nil => exact fun _ => ⟨[], rfl⟩
      | cons y ys ih =>
        intro h
        obtain ⟨x, e⟩ := ih fun k hk => h k (List.mem_cons_of_mem _ hk)
        obtain ⟨a, _, rfl⟩ := List.mem_map.mp (h y (List.mem_cons_self ..))
        exact ⟨a :: x, by rw [e]; rfl⟩
    exact this _ fun k hk => (hm k).mp (hp.subset hk)
  refine ⟨x, e, ?_, fun c => ?_⟩
  · have h1 := sortS_pw (uniqS (cs.map on))
    have h2 := hp.nodup_iff.mpr (uniqS_nodup (cs.map on))
    rw [e] at h1 h2
    have h3 : x.Nodup := (List.pairwise_map.mp h2).imp fun q z => q (by rw [z])
    exact (List.Pairwise.and (List.pairwise_map.mp h1) h3).imp fun ⟨a, b⟩ => Nat.lt_of_le_of_ne (leS_on.mp a) b
  · rw [← mem_on (c := c) (cs := x), ← e, hp.mem_iff, hm, mem_on]
theorem asc_sub {x L : List Nat} (hx : x.Pairwise (· < ·)) (hL : L.Pairwise (· < ·)) (h : ∀ c ∈ x, c ∈ L) : x.Sublist L := by
  have e : x = L.filter fun a => decide (a ∈ x) := asc_ext hx (hL.filter _) fun a => by
    rw [List.mem_filter, decide_eq_true_eq]
    exact ⟨fun m => ⟨h a m, m⟩, fun m => m.2⟩
  rw [e]
  exact List.filter_sublist
end Cm

namespace Cm
open PySem PySem.Spec FL
variable {c e n : Nat} {L x y : List Nat} {ps : List Pr}
theorem join_ev {x : List Nat} (h : x.length ≤ 1000) : gJoin "" (.list (tds (x.map on))) = some (.str (tx x)) := by
  rw [gJoin_l, txts_tds, Option.bind_some]
  exact joinS_on (cs := x) (by omega)
theorem add_on (a b : Nat) : dAdd (.str (on a)) (.str (on b)) = some (.str (pt (a, b))) := rfl
theorem cutD_to (xs : List D) (k : Nat) : cutD xs none (some (k : Int)) = xs.take (min k xs.length) := by
  unfold cutD
  rw [sIx_n, show HT.sIx xs.length xs.length (some (k : Int)) = min k xs.length from HT.sIx_nat _ _ _]
  simp
/-- some letters of a row, in order -/
def pick (S : Str) (iw m : Nat) : FE := (fCB gSorted (fCons (fSlice (fCall f_order (fCons (fVar iw) (fCons (fCB gList2 (fCons (fC (.str S)) fNil)) fNil))) oNo (oPart (fOp dAdd (fC (.int 1)) (fCall gDraw (fCons (fVar iw) (fCons (fC (.int (m : Nat))) fNil)))))) fNil))
theorem pick_wp {S : Str} {al : List Nat} {m iw : Nat} {δ : Sl} {Q : W → Nat → Prop} {Z : Xn → Nat → Prop} (hS : S.cps.toList = al) (hnd : al.Nodup) (ha : ∀ c ∈ al, c < 128) (hal : al.length ≤ 60) (h0 : 0 < m) (hm : m ≤ al.length) (hw : δ[iw]? = some vW) (hn : n + al.length + 1 ≤ 1048576)
    (k : ∀ L : List Nat, L.Pairwise (· < ·) → (∀ c ∈ L, c ∈ al) → L ≠ [] → L.length ≤ m → Q (.d (.list (tds (L.map on)))) (n + al.length + 1)) : (pick S iw m δ).wp n Q Z := by
  have l1 : S.length ≤ 1000000 := by
    have : S.length = al.length := by rw [← hS, Array.length_toList]; rfl
    omega
  have s1 : signs S = tds (al.map on) := by rw [signs_tds, hS]
  have g : gList2 [.str S] = some (.list (tds (al.map on))) := by rw [gList2_s, if_pos l1, s1]
  unfold pick
  simp [-gList2_s, T.wp_bind, T.wp_mapEx, hw, g]
  refine order_wp (ds := tds (al.map on)) (okAll_tds (okT_on ha)) (by rw [tds_len, List.length_map]; omega) (by rw [tds_len, List.length_map]; omega) fun es p => ?_
  obtain ⟨ys, rfl, p2⟩ := perm_tds p
  obtain ⟨ds, rfl, p3⟩ := perm_on p2
  have len : ds.length = al.length := p3.length_eq
  rw [tds_len, List.length_map]
  simp [T.bind_bind, hw]
  refine draw_wp (by omega) (by omega) (by omega) fun v v0 v1 => ?_
  obtain ⟨j, rfl⟩ : ∃ j : Nat, v = (j : Int) := ⟨v.toNat, by omega⟩
  have e1 : (1 : Int) + (j : Int) = ((j + 1 : Nat) : Int) := by omega
  have hk : min (j + 1) (tds (ds.map on)).length = j + 1 := by rw [tds_len, List.length_map, len]; omega
  have e2 : (tds (ds.map on)).take (j + 1) = tds ((ds.take (j + 1)).map on) := by
    unfold tds
    rw [← List.map_take, ← List.map_take]
  have l2 : (ds.take (j + 1)).length = j + 1 := by rw [List.length_take, len]; omega
  have e3 : gSorted [.list (tds ((ds.take (j + 1)).map on))] = some (.list (tds ((sortN (ds.take (j + 1))).map on))) := by
    show (txts _).bind _ = _
    rw [txts_tds, Option.bind_some, if_pos (by rw [List.length_map, l2]; omega), sortN_on]
    rfl
  rw [e1, cutD_to, hk, e2, T.wp_ret, W.rd_d, T.wp_ret, e3, T.of_some, T.wp_ret]
  have nd : ds.Nodup := p3.nodup_iff.mpr hnd
  refine k (sortN (ds.take (j + 1))) (sortN_asc (nd.sublist (List.take_sublist _ _))) (fun c hc => p3.subset ((List.take_sublist _ _).subset (sortN_mem.mp hc))) (fun z => ?_) (by rw [sortN_len, l2]; omega)
  have := sortN_len (ds.take (j + 1))
  rw [z, l2] at this
  cases this
/-! ### all pairs -/
theorem pairs_all (h0 : L ≠ []) (hl : L.length ≤ 9) : f_pairs [.d (.list (tds (L.map on)))] = .ret (.list (psD (allP L))) := by
  have inner : ∀ a : Nat, itemsL (.one 1) [some (.v (.d (.list (tds (L.map on))))), none, some (.v (.d (.str (on a))))] fYes (fOne (fOp dAdd (fVar 2) (fVar 1))) (tds (L.map on)) = .ret (psD (L.map fun b => (a, b))) := fun a => by
    rw [show tds (L.map on) = L.map fun c => D.str (on c) from List.map_map, items_pure (fun c => D.str (on c)) (fun _ => true) (fun b => D.str (pt (a, b))) _ (fun c hc => ⟨_, rfl, rfl, fun _ => ?_⟩)]
    · rw [List.filter_eq_self.mpr fun _ _ => rfl]
      unfold psD tds
      rw [List.map_map, List.map_map]
      rfl
    · simp [add_on]
  have l1 : L.length ≤ 1000000 := by omega
  have outer : itemsL (.one 2) [some (.v (.d (.list (tds (L.map on))))), none, none] fYes (fOne (fLc (fIt (fVar 0)) (.one 1) [1] fYes (fOp dAdd (fVar 2) (fVar 1)))) (tds (L.map on)) = .ret (L.map fun a => D.list (psD (L.map fun b => (a, b)))) := by
    have := items_pure (tg := .one 2) (δ := [some (.v (.d (.list (tds (L.map on))))), none, none]) (ft := fYes) (fe := fLc (fIt (fVar 0)) (.one 1) [1] fYes (fOp dAdd (fVar 2) (fVar 1))) (fun c => D.str (on c)) (fun _ => true) (fun a => D.list (psD (L.map fun b => (a, b)))) L (fun a ha => ⟨_, rfl, rfl, fun _ => by
      have := inner a
      simp [noOwns, isOwn, wipeD, l1, this]⟩)
    rw [List.filter_eq_self.mpr fun _ _ => rfl] at this
    exact Eq.trans (congrArg _ (show tds (L.map on) = L.map fun c => D.str (on c) from List.map_map)) this
  have e : (L.map fun a => psD (L.map fun b => (a, b))).flatten = psD (allP L) := by
    unfold allP rowP psD tds
    rw [List.map_flatMap, List.map_flatMap, List.flatMap_def]
  have len : (psD (allP L)).length ≤ 1000000 := by
    rw [tds_len, List.length_map]
    unfold allP
    rw [rowP_len]
    have : L.length * L.length ≤ 9 * 9 := Nat.mul_le_mul hl hl
    omega
  have g : gSumL [.list (L.map fun a => D.list (psD (L.map fun b => (a, b)))), .list []] = some (.list (psD (allP L))) := by
    rw [gSumL_l, listsOf_map, Option.bind_some, e, if_pos ⟨fun z => h0 (List.map_eq_nil_iff.mp z), len⟩]
  simp [f_pairs, b_pairs, noOwns, isOwn, wipeD, l1, outer, g]
/-- one pair in two -/
theorem half_draws {δ : Sl} (h0 : δ[(0 : Nat)]? = some vW) (h7 : 7 < δ.length) {Q : List D → Nat → Prop} {Z : Xn → Nat → Prop} : ∀ (xs : List D) (n : Nat), n + xs.length ≤ 1048576 → (∀ ys : List D, ys.Sublist xs → Q ys (n + xs.length)) →
    (itemsL (.one 7) δ (fVal (fOp dEq (fCall gDraw (fCons (fVar 0) (fCons (fC (.int 2)) fNil))) (fC (.int 0)))) (fOne (fVar 7)) xs).wp n Q Z
  | [], n, _, k => k [] .slnil
  | x :: xs, n, hn, k => by
    rw [List.length_cons] at hn
    have e1 : (δ.set 7 (some (S.v (.d x))))[(0 : Nat)]? = some vW := by rw [List.getElem?_set_ne (by decide)]; exact h0
    have e7 : (δ.set 7 (some (S.v (.d x))))[(7 : Nat)]? = some (vD x) := List.getElem?_set_self h7
    show T.wp ((T.of (putT (.one 7) _ x)).bind _) n Q Z
    rw [putT_one, T.of_some, T.ret_bind]
    have el : n + 1 + xs.length = n + (xs.length + 1) := by omega
    simp [T.wp_bind, e1]
    refine draw_wp (by decide) (by decide) (by omega) fun v v0 v1 => ?_
    by_cases hv : v = 0
    · simp [hv, T.wp_bind, e7]
      refine half_draws h0 h7 xs (n + 1) (by omega) fun ys p => ?_
      rw [el]
      exact k (x :: ys) (p.cons₂ x)
    · simp [hv]
      refine half_draws h0 h7 xs (n + 1) (by omega) fun ys p => ?_
      rw [el]
      exact k ys (p.cons x)
def plain (x y : List Nat) (ps : List Pr) : D := .dict [(.str "firsts", .str (tx x)), (.str "follows", .tuple (psD ps)), (.str "lasts", .str (tx y))]
theorem pl1 : dIx2 (plain x y ps) (.str "firsts") = some (.str (tx x)) := rfl
theorem pl2 : dIx2 (plain x y ps) (.str "follows") = some (.tuple (psD ps)) := rfl
theorem pl3 : dIx2 (plain x y ps) (.str "lasts") = some (.str (tx y)) := rfl
end Cm

namespace Cm
open PySem PySem.Spec FL
variable {c e n : Nat} {L x y : List Nat} {ps : List Pr} {Q : Out → Nat → Prop} {Z : Xn × Sl → Nat → Prop}
/-! ### a manner is drawn -/
def m0 : FS := (sPar 2 3 (fCons (fCall f_one (fCons (fVar 0) (fCons (fVar 1) fNil))) (fCons (fCall f_one (fCons (fVar 0) (fCons (fVar 1) fNil))) fNil)))
def m1 : FS := (sSetX 4 (fXlc (fIt (fCall f_pairs (fCons (fVar 1) fNil))) (.one 7) [7] (fVal (fOp dEq (fCall gDraw (fCons (fVar 0) (fCons (fC (.int 2)) fNil))) (fC (.int 0)))) (fVar 7)))
def m2 : FS := (sIf (fAnd (fVal (fOp dNe (fVar 2) (fVar 3))) (fVal (fOp dNotIn2 (fOp dAdd (fVar 2) (fVar 3)) (fVar 4)))) (sApp 4 (fOp dAdd (fVar 2) (fVar 3))) sNext)
def m3 : FS := (sPar 5 6 (fCons (fSset (fOp dAdd (fSeq .list (fCons (fVar 2) fNil)) (fCall f_some (fCons (fVar 0) (fCons (fVar 1) (fCons (fC (.int 3)) fNil)))))) (fCons (fSset (fOp dAdd (fSeq .list (fCons (fVar 3) fNil)) (fCall f_some (fCons (fVar 0) (fCons (fVar 1) (fCons (fC (.int 3)) fNil)))))) fNil)))
def m4 : FS := (sRet (fDisp ["firsts", "follows", "lasts"] (fCons (fJoin (fC (.str "")) (fVar 5)) (fCons (fCB gTuple (fCons (fCB gSorted (fCons (fVar 4) fNil)) fNil)) (fCons (fJoin (fC (.str "")) (fVar 6)) fNil)))))
theorem pm_eq : b_plain_manner = sSeq m0 (sSeq m1 (sSeq m2 (sFrz 4 (sSeq m3 m4)))) := rfl
abbrev vL (L : List Nat) : Option S := vD (.list (tds (L.map on)))
abbrev vO (c : Nat) : Option S := vD (.str (on c))
theorem tds_on {x : D} {L : List Nat} (h : x ∈ tds (L.map on)) : ∃ a ∈ L, x = .str (on a) := by
  obtain ⟨s, hs, rfl⟩ := List.mem_map.mp h
  obtain ⟨a, ha, rfl⟩ := List.mem_map.mp hs
  exact ⟨a, ha, rfl⟩
theorem m0_wp (h0 : L ≠ []) (hl : L.length ≤ 9) (hn : n + 2 ≤ 1048576) (k : ∀ a ∈ L, ∀ b ∈ L, Q (.nx [vW, vL L, vO a, vO b, none, none, none, none]) (n + 2)) : Wp (m0 [vW, vL L, none, none, none, none, none, none]) n Q Z := by
  rw [Wp_eq]
  have hp : 0 < (tds (L.map on)).length := by rw [tds_len, List.length_map]; exact List.length_pos_iff.mpr h0
  have hq : (tds (L.map on)).length ≤ 1000000 := by rw [tds_len, List.length_map]; omega
  unfold m0
  simp [T.wp_bind, T.wp_mapEx]
  refine one_wp hp hq (by omega) fun d hd => ?_
  obtain ⟨a, ha, rfl⟩ := tds_on hd
  refine one_wp hp hq (by omega) fun d hd => ?_
  obtain ⟨b, hb, rfl⟩ := tds_on hd
  exact k a ha b hb
theorem m1_wp {a b : Nat} (h0 : L ≠ []) (hl : L.length ≤ 9) (hn : n + L.length * L.length ≤ 1048576) (k : ∀ ps : List Pr, ps.Sublist (allP L) → Q (.nx [vW, vL L, vO a, vO b, ownL (psD ps), none, none, none]) (n + L.length * L.length)) : Wp (m1 [vW, vL L, vO a, vO b, none, none, none, none]) n Q Z := by
  rw [Wp_eq]
  have pl : (psD (allP L)).length = L.length * L.length := by
    rw [tds_len, List.length_map]
    exact rowP_len L L
  have hll : L.length * L.length ≤ 9 * 9 := Nat.mul_le_mul hl hl
  have src : (fIt (fCall f_pairs (fCons (fVar 1) fNil))) [vW, vL L, vO a, vO b, none, none, none, none] = .ret (psD (allP L)) := by
    have := pairs_all h0 hl
    simp [this]
  unfold m1
  rw [sSetX_def, T.wp_bind, lft_def, T.wp_mapEx, fXlc_def, if_pos (show noOwns [vW, vL L, vO a, vO b, none, none, none, none] [7] = true from rfl), src, T.ret_bind, if_pos (by rw [pl]; omega), T.wp_bind, T.wp_noex]
  refine half_draws rfl (Nat.lt_of_sub_eq_succ rfl) _ _ (by rw [pl]; omega) fun es p => ?_
  obtain ⟨ys, rfl, p2⟩ := sub_tds p
  obtain ⟨ps, rfl, p3⟩ := sub_pt p2
  rw [pl]
  simpa using k ps p3
/-- the pair from the first to the last is there -/
def addP (a b : Nat) (ps : List Pr) : List Pr := if a ≠ b ∧ (a, b) ∉ ps then ps ++ [(a, b)] else ps
theorem okT_pt {ps : List Pr} (h : ∀ p ∈ ps, p.1 < 128 ∧ p.2 < 128) : okT (ps.map pt) = true := by
  unfold okT
  rw [List.all_map]
  refine List.all_eq_true.mpr fun p hp => ?_
  obtain ⟨h1, h2⟩ := h p hp
  show (#[p.1, p.2].all (· < 0x110000)) = true
  simp
  omega
theorem strOk_pt {p : Pr} (h : p.1 < 128 ∧ p.2 < 128) : PyData.strOk (pt p) = true := by
  show (#[p.1, p.2].all (· < 0x110000)) = true
  simp
  omega
theorem dIn_ps {p : Pr} {ps : List Pr} (h : ∀ q ∈ p :: ps, q.1 < 128 ∧ q.2 < 128) : dIn (.str (pt p)) (.list (psD ps)) = some (.bool (decide (p ∈ ps))) := by
  rw [dIn_tds (by show (PyData.strOk (pt p) && okT (ps.map pt)) = true; rw [strOk_pt (h p (List.mem_cons_self ..)), okT_pt fun q hq => h q (List.mem_cons_of_mem _ hq)]; rfl)]
  congr 2
  exact decide_eq_decide.mpr ⟨fun m => by
    obtain ⟨r, hr, e⟩ := List.mem_map.mp m
    rw [← pt_inj.mp e]
    exact hr, fun m => List.mem_map.mpr ⟨p, m, rfl⟩⟩
theorem m2_ev {a b : Nat} (h : ∀ q ∈ (a, b) :: ps, q.1 < 128 ∧ q.2 < 128) (hl : ps.length ≤ 1000) : m2 [vW, vL L, vO a, vO b, ownL (psD ps), none, none, none] = .ret (.nx [vW, vL L, vO a, vO b, ownL (psD (addP a b ps)), none, none, none]) := by
  have e1 := dIn_ps h
  have e2 := add_on a b
  have l1 : ps.length < 1000000 := by omega
  unfold m2 addP
  by_cases hab : a = b
  · simp [hab, on_inj]
  · by_cases hm : (a, b) ∈ ps
    · simp only [hm, decide_true] at e1
      simp [hab, on_inj, hm, e2, e1, notD]
    · simp only [hm, decide_false] at e1
      simp [hab, on_inj, hm, e2, e1, notD, l1]
      unfold psD
      rw [List.map_append, tds_app]
      rfl
theorem m3_wp {a b : Nat} {s4 : Option S} (hL : L.Pairwise (· < ·)) (ha : a ∈ L) (hb : b ∈ L) (hl : L.length ≤ 9) (hn : n + 18 ≤ 1048576) (k : ∀ x y : List Nat, x.Sublist L → y.Sublist L → a ∈ x → b ∈ y → Q (.nx [vW, vL L, vO a, vO b, s4, vL x, vL y, none]) (n + L.length + L.length)) : Wp (m3 [vW, vL L, vO a, vO b, s4, none, none, none]) n Q Z := by
  rw [Wp_eq]
  have ll : (tds (L.map on)).length = L.length := by rw [tds_len, List.length_map]
  have one : ∀ (a : Nat), a ∈ L → ∀ zs : List Nat, zs.Sublist L → ∃ x : List Nat, dAdd (.list [.str (on a)]) (.list (tds (zs.map on))) = some (.list (tds (on a :: zs.map on))) ∧ gSset [.list (tds (on a :: zs.map on))] = some (.list (tds (x.map on))) ∧ x.Sublist L ∧ a ∈ x := fun a ha zs hz => by
    obtain ⟨x, e, h1, h2⟩ := sset_on (a :: zs)
    have lz := hz.length_le
    refine ⟨x, ?_, ?_, asc_sub h1 hL fun c hc => ?_, (h2 a).mpr (List.mem_cons_self ..)⟩
    · rw [dAdd_l, if_pos (by rw [tds_len, List.length_map]; show 1 + zs.length ≤ 1000000; omega)]
      rfl
    · rw [gSset_l, txts_tds, Option.bind_some, if_pos (by rw [List.length_cons, List.length_map]; exact Nat.le_trans (show zs.length + 1 ≤ 10 by omega) (by decide)), show on a :: zs.map on = (a :: zs).map on from rfl, e]
      rfl
    · rcases List.mem_cons.mp ((h2 c).mp hc) with rfl | h
      · exact ha
      · exact hz.subset h
  unfold m3
  simp [-gSset_l, -dAdd_l, T.wp_bind, T.wp_mapEx]
  refine some_wp (xs := tds (L.map on)) (m := 3) (n := n) (by decide) (by decide) (by rw [ll]; omega) (by rw [ll]; omega) fun es p => ?_
  obtain ⟨ys, rfl, p2⟩ := sub_tds p
  obtain ⟨zs, rfl, p3⟩ := sub_on p2
  obtain ⟨x, e1, e2, x1, x2⟩ := one a ha zs p3
  rw [ll]
  simp [-gSset_l, -dAdd_l, T.wp_bind, T.wp_mapEx, e1, e2]
  refine some_wp (xs := tds (L.map on)) (m := 3) (n := n + L.length) (by decide) (by decide) (by rw [ll]; omega) (by rw [ll]; omega) fun es p => ?_
  obtain ⟨ys, rfl, p2⟩ := sub_tds p
  obtain ⟨zs2, rfl, p4⟩ := sub_on p2
  obtain ⟨y, e3, e4, y1, y2⟩ := one b hb zs2 p4
  rw [ll]
  simp [-gSset_l, -dAdd_l, T.wp_bind, T.wp_mapEx, e3, e4]
  exact k x y x1 y1 x2 y2
theorem m4_ev {s2 s3 : Option S} (nd : ps.Nodup) (hl : ps.length < 64) (hx : x.length ≤ 1000) (hy : y.length ≤ 1000) : ∃ qs : List Pr, qs.Perm ps ∧ qs.Pairwise lexP ∧ m4 [vW, vL L, s2, s3, vD (.list (psD ps)), vL x, vL y, none] = .ret (.rt (plain x y qs)) := by
  obtain ⟨qs, e, p, q⟩ := sortP nd
  refine ⟨qs, p, q, ?_⟩
  have g : gSorted [.list (psD ps)] = some (.list (psD qs)) := by
    show (txts _).bind _ = _
    rw [txts_tds, Option.bind_some, if_pos (by rw [List.length_map]; exact hl), e]
    rfl
  have nd : (["firsts", "follows", "lasts"] : List Str).Nodup := by decide +kernel
  have e1 := join_ev hx
  have e2 := join_ev hy
  unfold m4
  simp [-gJoin_l, e1, e2, g, nd]
  rfl
/-- a plain manner with a text -/
structure Manner (L x y : List Nat) (ps : List Pr) : Prop extends Round L x y ps where
  xn : x ≠ []
  yn : y ≠ []
  tn : useful x y ps ≠ []
theorem plain_wp {Q : D → Nat → Prop} {Z : Xn → Nat → Prop} (hL : L.Pairwise (· < ·)) (hs : ∀ c ∈ L, isL c = true) (h0 : L ≠ []) (hl : L.length ≤ 7) (hn : n + 100 ≤ 1048576) (k : ∀ x y ps, Manner L x y ps → Q (plain x y ps) (n + 2 + L.length * L.length + L.length + L.length)) : Wp (f_plain_manner [.wl, .d (.list (tds (L.map on)))]) n Q Z := by
  have hll : L.length * L.length ≤ 7 * 7 := Nat.mul_le_mul hl hl
  rw [Wp_eq, f_plain_manner, mk_def, if_pos (show [W.wl, W.d (D.list (tds (L.map on)))].length = 2 from rfl), T.wp_bind, T.wp_mapEx, show startL 8 [W.wl, W.d (D.list (tds (L.map on)))] = [vW, vL L, none, none, none, none, none, none] from rfl, pm_eq]
  rw [← Wp_eq, hp_wp]
  refine m0_wp h0 (by omega) (by omega) fun a ha b hb => ?_
  rw [oSeq_nx, hp_wp]
  refine m1_wp h0 (by omega) (by omega) fun ps hp => ?_
  have lps : ps.length ≤ 49 := by
    have h1 := hp.length_le
    have h2 : (allP L).length = L.length * L.length := rowP_len L L
    omega
  have pm : ∀ p ∈ ps, p.1 ∈ L ∧ p.2 ∈ L := fun p hq => mem_rowP.mp (hp.subset hq)
  have pa : ps.Pairwise lexP := (rowP_asc hL hL).sublist hp
  rw [oSeq_nx, hp_ret (m2_ev (fun q hq => by
    rcases List.mem_cons.mp hq with rfl | hq
    · exact ⟨isL_lt (hs a ha), isL_lt (hs b hb)⟩
    · exact ⟨isL_lt (hs _ (pm q hq).1), isL_lt (hs _ (pm q hq).2)⟩) (by omega))]
  refine hp_frz (l := psD (addP a b ps)) rfl ?_
  show Wp (sSeq m3 m4 [vW, vL L, vO a, vO b, vD (.list (psD (addP a b ps))), none, none, none]) _ _ _
  rw [hp_wp]
  refine m3_wp hL ha hb (by omega) (by omega) fun x y hx hy hax hby => ?_
  have nd2 : (addP a b ps).Nodup := by
    unfold addP
    split
    · rename_i h
      exact List.nodup_append.mpr ⟨lex_nodup pa, by simp, fun z hz w hw q => h.2 (by rw [← List.mem_singleton.mp hw, ← q]; exact hz)⟩
    · exact lex_nodup pa
  have l2 : (addP a b ps).length ≤ 50 := by
    unfold addP
    split
    · rw [List.length_append]; simp; omega
    · omega
  have lx := hx.length_le
  have ly := hy.length_le
  obtain ⟨qs, q1, q2, e⟩ := m4_ev (L := L) (x := x) (y := y) (s2 := vO a) (s3 := vO b) nd2 (by omega) (by omega) (by omega)
  rw [oSeq_nx, Wp_eq, e, T.wp_ret, fin_rt, T.wp_ret]
  have qm : ∀ p ∈ qs, p.1 ∈ L ∧ p.2 ∈ L := fun p hp => by
    have := q1.subset hp
    unfold addP at this
    split at this
    · rcases List.mem_append.mp this with h | h
      · exact pm p h
      · rw [List.mem_singleton.mp h]
        exact ⟨ha, hb⟩
    · exact pm p this
  have R : Round L x y qs := ⟨hL, hs, by omega, hx, hy, q2, qm⟩
  refine k x y qs ⟨R, List.ne_nil_of_mem hax, List.ne_nil_of_mem hby, ?_⟩
  by_cases hab : a = b
  · subst hab
    have t : isT x y qs [a] = true := by
      rw [isT_def]
      simp [hax, hby, inQ]
    exact List.ne_nil_of_mem (useful_of R.fine t a (List.mem_singleton.mpr rfl))
  · have hq : (a, b) ∈ qs := q1.symm.subset (by
      unfold addP
      split
      · exact List.mem_append_right _ (List.mem_singleton.mpr rfl)
      · rename_i h
        by_cases hm : (a, b) ∈ ps
        · exact hm
        · exact absurd ⟨hab, hm⟩ h)
    have t : isT x y qs [a, b] = true := by
      rw [isT_def]
      simp [hax, hby, inQ, hq]
    exact List.ne_nil_of_mem (useful_of R.fine t a (List.mem_cons_self ..))
end Cm

namespace Cm
open PySem PySem.Spec FL
variable {c e n : Nat} {U L x y : List Nat} {ps : List Pr} {Q : Out → Nat → Prop} {Z : Xn × Sl → Nat → Prop}
@[simp] theorem fRng2_def (f g : FE) (δ : Sl) : fRng2 f g δ = (f δ).bind fun w => (g δ).bind fun u => w.rd.bind fun x => u.rd.bind fun y => rng2 x y := rfl
@[simp] theorem rng2_def (i j : Int) : rng2 (.int i) (.int j) = if -(2 ^ 62) ≤ i ∧ i < 2 ^ 62 ∧ -(2 ^ 62) ≤ j ∧ j < 2 ^ 62 then .ret (nums i (j - i).toNat) else .bad := rfl
theorem notIn_tx (a : Nat) (bs : List Nat) : dNotIn2 (.str (on a)) (.str (tx bs)) = some (.bool (!decide (a ∈ bs))) := rfl
theorem dIn_tpl {xs : List Str} {x : Str} (h : okT (x :: xs) = true) : dIn (.str x) (.tuple (tds xs)) = some (.bool (decide (x ∈ xs))) := by
  have h' : PyData.strOk x = true ∧ okT xs = true := Bool.and_eq_true_iff.mp h
  show (if okEq (.str x) = true ∧ okEq (.tuple (tds xs)) = true then some (D.bool ((tds xs).any fun z => eqv z (.str x))) else none) = _
  rw [okEq_str, okEq_tpl, if_pos h', any_tds]
theorem dInT_ps {p : Pr} {ps : List Pr} (h : ∀ q ∈ p :: ps, q.1 < 128 ∧ q.2 < 128) : dIn (.str (pt p)) (.tuple (psD ps)) = some (.bool (decide (p ∈ ps))) := by
  rw [dIn_tpl (by show (PyData.strOk (pt p) && okT (ps.map pt)) = true; rw [strOk_pt (h p (List.mem_cons_self ..)), okT_pt fun q hq => h q (List.mem_cons_of_mem _ hq)]; rfl)]
  congr 2
  exact decide_eq_decide.mpr ⟨fun m => by
    obtain ⟨r, hr, e⟩ := List.mem_map.mp m
    rw [← pt_inj.mp e]
    exact hr, fun m => List.mem_map.mpr ⟨p, m, rfl⟩⟩
theorem notInT_ps {p : Pr} {ps : List Pr} (h : ∀ q ∈ p :: ps, q.1 < 128 ∧ q.2 < 128) : dNotIn2 (.str (pt p)) (.tuple (psD ps)) = some (.bool (!decide (p ∈ ps))) := by
  rw [dNotIn2_def, dIn2_t, dInT_ps h]
  rfl
theorem okEq_ints : ∀ is : List Int, okEq (.list (is.map D.int)) = true := fun is => by
  have h1 : D.flatL (is.map D.int) = true := by
    induction is with
    | nil => rfl
    | cons i is ih => exact ih
  have h2 : PyData.canLayAll0 (D.pyL (is.map D.int)) = true := by
    induction is with
    | nil => rfl
    | cons i is ih => exact ih h1
  have h3 : PyData.depthAll (D.pyL (is.map D.int)) = 0 := by
    have : ∀ is : List Int, PyData.depthAll (D.pyL (is.map D.int)) = 0 := fun is => by
      induction is with
      | nil => rfl
      | cons i is ih =>
        show max 0 (PyData.depthAll (D.pyL (is.map D.int))) = 0
        rw [ih]
        rfl
    exact this is
  show (D.flatL (is.map D.int) && (PyData.canLayAll0 (D.pyL (is.map D.int)) && decide (PyData.depthAll (D.pyL (is.map D.int)) + 1 ≤ 64))) = true
  rw [h1, h2, h3]
  rfl
/-! ### a text, by own look -/
def iHead : FS := (sIf (fOr (fVal (fOp dEq (fVar 1) (fC (.str "")))) (fOr (fVal (fOp dNotIn2 (fOp dIx (fVar 1) (fC (.int 0))) (fOp dIx2 (fVar 0) (fC (.str "firsts"))))) (fVal (fOp dNotIn2 (fOp dIx (fVar 1) (fNeg (fC (.int 1)))) (fOp dIx2 (fVar 0) (fC (.str "lasts"))))))) (sRet (fC (.bool false))) sNext)
def iEnd : FS := (sRet (fOp dEq (fLc (fRng1 (fOp dSub (fCB rDicts (fCons (fVar 1) fNil)) (fC (.int 1)))) (.one 2) [2] (fVal (fOp dNotIn2 (fSlice (fVar 1) (oPart (fVar 2)) (oPart (fOp dAdd (fVar 2) (fC (.int 2))))) (fOp dIx2 (fVar 0) (fC (.str "follows"))))) (fVar 2)) (fSeq .list fNil)))
theorem is_eq : b_is_text = sSeq iHead iEnd := rfl
theorem filter_nil {α : Type} (p : α → Bool) (xs : List α) : (xs.filter fun a => !p a).isEmpty = xs.all p := by
  induction xs with
  | nil => rfl
  | cons a xs ih =>
    rw [List.filter_cons, List.all_cons]
    by_cases h : p a = true
    · simp [h, ih]
    · simp [h]
theorem iEnd_ev (t : List Nat) (ht : t ≠ []) (hl : t.length ≤ 1000000) (ha : ∀ a ∈ t, a < 128) (hp : ∀ p ∈ ps, p.1 < 128 ∧ p.2 < 128) : iEnd [vD (plain x y ps), vD (.str (tx t)), none] = .ret (.rt (.bool (inQ ps t))) := by
  have h1 : 1 ≤ t.length := List.length_pos_iff.mpr ht
  have r : itemsL (.one 2) [vD (plain x y ps), vD (.str (tx t)), none] (fVal (fOp dNotIn2 (fSlice (fVar 1) (oPart (fVar 2)) (oPart (fOp dAdd (fVar 2) (fC (.int 2))))) (fOp dIx2 (fVar 0) (fC (.str "follows"))))) (fOne (fVar 2)) (nums 0 (t.length - 1)) = .ret (((List.range (t.length - 1)).filter fun i => !decide ((t.zip t.tail).getD i (0, 0) ∈ ps)).map fun (i : Nat) => D.int (0 + (i : Int))) := by
    unfold nums
    rw [items_pure (fun i : Nat => D.int (0 + (i : Int))) (fun i => !decide ((t.zip t.tail).getD i (0, 0) ∈ ps)) (fun (i : Nat) => D.int (0 + (i : Int))) _ (fun i hi => ⟨_, rfl, ?_, fun _ => by simp⟩)]
    have hi' : i + 1 < t.length := by have := List.mem_range.mp hi; omega
    have e1 := two_ev hi'
    have hz : i < (t.zip t.tail).length := by rw [List.length_zip, List.length_tail]; omega
    have hm : (t.zip t.tail).getD i (0, 0) ∈ t.zip t.tail := by
      rw [List.getD_eq_getElem?_getD, List.getElem?_eq_getElem hz]
      exact List.getElem_mem hz
    have e2 := notInT_ps (p := (t.zip t.tail).getD i (0, 0)) (ps := ps) (fun q hq => by
      rcases List.mem_cons.mp hq with rfl | hq
      · exact ⟨ha _ (mem_zip_tail hm).1, ha _ (mem_zip_tail hm).2⟩
      · exact hp q hq)
    have l1 : (tx t).length ≤ 1000000 := hl
    have e3 := pl2 (x := x) (y := y) (ps := ps)
    generalize plain x y ps = P at e3
    simp only [Int.zero_add]
    simp [-dNotIn2_def, -dIx2_d, -List.getD_eq_getElem?_getD, l1, e1, e2, e3]
  have e3 := filter_nil (fun i : Nat => decide ((t.zip t.tail).getD i (0, 0) ∈ ps)) (List.range (t.length - 1))
  rw [range_all t fun p => decide (p ∈ ps)] at e3
  have l1 : (tx t).length ≤ 1000000 := hl
  have l2 : (tx t).length = t.length := rfl
  have a : -(2 ^ 62 : Int) ≤ (t.length : Nat) - 1 ∧ ((t.length : Nat) : Int) - 1 < 2 ^ 62 := by omega
  have l3 : (nums 0 (t.length - 1)).length ≤ 1000000 := by unfold nums; rw [List.length_map, List.length_range]; omega
  have l4 := okEq_ints (((List.range (t.length - 1)).filter fun i => !decide ((t.zip t.tail).getD i (0, 0) ∈ ps)).map fun (i : Nat) => (0 + (i : Int)))
  rw [List.map_map] at l4
  have l5 := eqv_nil (((List.range (t.length - 1)).filter fun i => !decide ((t.zip t.tail).getD i (0, 0) ∈ ps)).map fun (i : Nat) => D.int (0 + (i : Int)))
  rw [List.isEmpty_map, e3] at l5
  have l4' : okEq (.list (((List.range (t.length - 1)).filter fun i => !decide ((t.zip t.tail).getD i (0, 0) ∈ ps)).map fun (i : Nat) => D.int (0 + (i : Int)))) = true := l4
  generalize (((List.range (t.length - 1)).filter fun i => !decide ((t.zip t.tail).getD i (0, 0) ∈ ps)).map fun (i : Nat) => D.int (0 + (i : Int))) = ds at r l4' l5
  have src : fRng1 (fOp dSub (fCB rDicts (fCons (fVar 1) fNil)) (fC (.int 1))) [vD (plain x y ps), vD (.str (tx t)), none] = .ret (nums 0 (t.length - 1)) := by
    have b : (((t.length : Nat) : Int) - 1).toNat = t.length - 1 := by omega
    simp [l1, l2, hl]
    omega
  unfold iEnd
  rw [sRet_def, fOp_def, fLc_def, if_pos (show noOwns [vD (plain x y ps), vD (.str (tx t)), none] [2] = true from rfl), src, T.ret_bind, if_pos l3, show wipeD [vD (plain x y ps), vD (.str (tx t)), none] [2] = [vD (plain x y ps), vD (.str (tx t)), none] from rfl, r]
  simp [-eqv_list, l4', l5]
  rfl
theorem is_ev {t : List Nat} (hl : t.length ≤ 1000000) (ha : ∀ a ∈ t, a < 128) (hp : ∀ p ∈ ps, p.1 < 128 ∧ p.2 < 128) : f_is_text [.d (plain x y ps), .d (.str (tx t))] = .ret (.bool (isT x y ps t)) := by
  rw [f_is_text, mk_def]
  refine (if_pos rfl).trans ?_
  rw [show startL 3 [.d (plain x y ps), .d (.str (tx t))] = [vD (plain x y ps), vD (.str (tx t)), none] from rfl, is_eq]
  have p1 := pl1 (x := x) (y := y) (ps := ps)
  have p3 := pl3 (x := x) (y := y) (ps := ps)
  cases t with
  | nil =>
    have e : (tx [] : Str) = ("" : Str) := rfl
    simp [iHead, e, isT]
  | cons a t =>
    have e0 : ¬ (tx (a :: t) = ("" : Str)) := fun z => absurd (tx_inj (a := a :: t) (b := []).mp z) (List.cons_ne_nil _ _)
    have e1 := first_ev hl
    have e2 := last_ev (List.cons_ne_nil a t) hl
    have e3 := notIn_tx a x
    have e4 := notIn_tx ((a :: t).getLastD 0) y
    by_cases g1 : a ∈ x
    · simp only [g1, decide_true, Bool.not_true] at e3
      by_cases g2 : (a :: t).getLastD 0 ∈ y
      · simp only [g2, decide_true, Bool.not_true] at e4
        rw [seq_eq (δ' := [vD (plain x y ps), vD (.str (tx (a :: t))), none]) (by
          generalize plain x y ps = P at p1 p3
          simp [iHead, -dIx_s, -dNotIn2_def, -List.getLastD_eq_getLast?, -dIx2_d, e0, e1, e2, e3, e4, p1, p3])]
        rw [iEnd_ev (a :: t) (List.cons_ne_nil _ _) hl ha hp]
        simp only [isT, g1, g2, decide_true, Bool.true_and]
        rfl
      · simp only [g2, decide_false, Bool.not_false] at e4
        simp only [isT, g1, g2]
        generalize plain x y ps = P at p1 p3
        simp [iHead, -dIx_s, -dNotIn2_def, -List.getLastD_eq_getLast?, -dIx2_d, e0, e1, e2, e3, e4, p1, p3]
    · simp only [g1, decide_false, Bool.not_false] at e3
      simp only [isT, g1]
      generalize plain x y ps = P at p1 p3
      simp [iHead, -dIx_s, -dNotIn2_def, -List.getLastD_eq_getLast?, -dIx2_d, e0, e1, e3, p1, p3]
/-! ### the Manner of a plain one -/
theorem made_plain (h : Fine U x y ps) (hl : useful x y ps ≠ []) : f_law_manner c e [.d (plain x y ps)] = .ret (manner c x y ps (useful x y ps)) := by
  have e1 := manner_ev (c := c) (e := e) h (d := .tuple (psD ps)) (.inr rfl) hl
  simp [f_law_manner, b_law_manner, pl1, pl2, pl3, planW, Pl.w, e1]
theorem manner_v (h : Fine U x y ps) (ls : List Nat) : MnV c (manner c x y ps ls) (both x ls) (both y ls) (psL ps ls) where
  ob := ⟨fields x y ps ls, rfl, rfl, rfl, rfl, rfl, rfl, rfl⟩
  lb := by have := both_len x ls; have := h.xs; omega
  le := by have := both_len y ls; have := h.ys; omega
  lq := Nat.le_trans (List.length_filter_le ..) h.pl
  ab := fun a ha => h.ua a (h.fx.sub a (mem_both.mp ha).1)
  ae := fun a ha => h.ua a (h.fy.sub a (mem_both.mp ha).1)
  aq := fun p hp => ⟨h.ua _ (h.p1 p (mem_psL.mp hp).1), h.ua _ (h.p2 p (mem_psL.mp hp).1)⟩
/-- .. has just its texts -/
theorem has_all (h : Fine U x y ps) {t : List Nat} (hl : t.length ≤ 1000000) (ha : ∀ a ∈ t, a < 128) : f_Manner_has c [.d (manner c x y ps (useful x y ps)), .d (.str (tx t))] = .ret (.bool (isT x y ps t)) := by
  rw [has_ev (manner_v h _) hl ha, isT_useful h]
end Cm

namespace Cm
open PySem PySem.Spec FL
variable {c bn tm n : Nat} {U L x y : List Nat} {ps : List Pr}
/-! ### how long a repr is -/
theorem fold_le (f : Nat → Nat) (k : Nat) : ∀ (cs : List Nat) (a : Nat), (∀ c ∈ cs, f c ≤ k) → cs.foldl (fun n c => n + f c) a ≤ a + k * cs.length
  | [], a, _ => by simp
  | c :: cs, a, h => by
    have h1 := fold_le f k cs (a + f c) fun z hz => h z (List.mem_cons_of_mem _ hz)
    have h2 := h c (List.mem_cons_self ..)
    rw [List.foldl_cons, List.length_cons, Nat.mul_succ]
    omega
theorem repr_le (cs : List Nat) (h : ∀ c ∈ cs, c < 128) : (reprText (tx cs)).length ≤ 2 + 10 * cs.length := by
  rw [← reprLen_eq, ← Array.foldl_toList]
  exact fold_le (fun c => (Builtin.Str.reprChar _ c).length) 10 cs 2 fun c hc => StrLaws.reprChar_len _ c (by have := h c hc; omega)
theorem inB_tds : ∀ xs : List Str, D.inBL (tds xs) = true
  | [] => rfl
  | x :: xs => inB_tds xs
theorem swL_tx (k : Nat) : ∀ ts : List (List Nat), (∀ t ∈ ts, t.length ≤ k ∧ ∀ a ∈ t, a < 128) → D.swL (tds (ts.map tx)) ≤ (10 * k + 4) * ts.length
  | [], _ => by simp [tds, D.swL]
  | t :: ts, h => by
    have ih := swL_tx k ts fun u hu => h u (List.mem_cons_of_mem _ hu)
    obtain ⟨h1, h2⟩ := h t (List.mem_cons_self ..)
    have e := repr_le t h2
    show (reprText (tx t)).length + 2 + D.swL (tds (ts.map tx)) ≤ (10 * k + 4) * (ts.length + 1)
    rw [Nat.mul_succ]
    omega
/-! ### strings of so many letters -/
def WK (L : List Nat) (k : Nat) : List (List Nat) := wordsK L k [[]]
theorem wordsK_succ (L : List Nat) : ∀ (k : Nat) (ts : List (List Nat)), wordsK L (k + 1) ts = wordsN L (wordsK L k ts)
  | 0, ts => rfl
  | k + 1, ts => wordsK_succ L k (wordsN L ts)
theorem WK_succ (L : List Nat) (k : Nat) : WK L (k + 1) = wordsN L (WK L k) := wordsK_succ L k _
theorem ones_eq (L : List Nat) : wordsN L [[]] = ones L := by
  unfold wordsN ones
  rw [List.flatMap_cons, List.flatMap_nil, List.append_nil]
  rfl
theorem WK_ones (L : List Nat) (k : Nat) : WK L (k + 1) = wordsK L k (ones L) := by
  show wordsK L k (wordsN L [[]]) = _
  rw [ones_eq]
theorem wordsN_len (L : List Nat) : ∀ ts : List (List Nat), (wordsN L ts).length = ts.length * L.length
  | [] => by simp [wordsN]
  | t :: ts => by
    have ih := wordsN_len L ts
    have e : wordsN L (t :: ts) = L.map (fun a => t ++ [a]) ++ wordsN L ts := rfl
    rw [e, List.length_append, ih, List.length_map, List.length_cons, Nat.succ_mul, Nat.add_comm]
theorem WK_len (L : List Nat) : ∀ k, (WK L k).length = L.length ^ k
  | 0 => rfl
  | k + 1 => by rw [WK_succ, wordsN_len, WK_len L k, Nat.pow_succ]
theorem WK_mem (L : List Nat) : ∀ k, ∀ t ∈ WK L k, t.length = k ∧ ∀ a ∈ t, a ∈ L
  | 0, t, h => by
    rw [List.mem_singleton.mp h]
    exact ⟨rfl, fun a ha => by cases ha⟩
  | k + 1, t, h => by
    rw [WK_succ] at h
    obtain ⟨u, hu, h⟩ := List.mem_flatMap.mp h
    obtain ⟨a, ha, rfl⟩ := List.mem_map.mp h
    obtain ⟨h1, h2⟩ := WK_mem L k u hu
    refine ⟨by rw [List.length_append, h1]; rfl, fun b hb => ?_⟩
    rcases List.mem_append.mp hb with hb | hb
    · exact h2 b hb
    · rw [List.mem_singleton.mp hb]
      exact ha
theorem WK_ne (L : List Nat) (h : L ≠ []) (k : Nat) : WK L k ≠ [] := fun z => by
  have := WK_len L k
  rw [z] at this
  have hp : 0 < L.length := List.length_pos_iff.mpr h
  have := Nat.pow_pos (n := k) hp
  simp at *
  omega
/-- the texts among some strings -/
def due (x y : List Nat) (ps : List Pr) (ts : List (List Nat)) : D := .tuple (tds ((ts.filter (isT x y ps)).map tx))
theorem both_subl {a b L : List Nat} (h : a.Sublist L) : (both a b).Sublist L := List.Sublist.trans List.filter_sublist h
theorem pow4 {l k : Nat} (hl : l ≤ 4) (hk : k ≤ 5) : l ^ k ≤ 1024 := Nat.le_trans (Nat.pow_le_pow_left hl k) (Nat.le_trans (Nat.pow_le_pow_right (by decide) hk) (by decide))
/-- texts of up to four letters out of four -/
theorem texts_all (R : Round L x y ps) (hl : L.length ≤ 4) {k : Nat} (h1 : 1 ≤ k) (h2 : k ≤ 4) : f_Manner_texts c bn tm [.d (manner c x y ps (useful x y ps)), .d (.int (k : Nat))] = .ret (due x y ps (WK L k)) := by
  have h := R.fine
  have M := manner_v (c := c) h (useful x y ps)
  have g : Good (psL ps (useful x y ps)) := good_lex (R.pa.filter _)
  have hq : ∀ p ∈ psL ps (useful x y ps), p.2 ∈ L := fun p hp => (R.pm p (mem_psL.mp hp).1).2
  have hb : (both x (useful x y ps)).Sublist L := both_subl R.xs
  have key : ∀ j, tk (psL ps (useful x y ps)) j (ones (both x (useful x y ps))) = (WK L (j + 1)).filter (pathB (both x (useful x y ps)) (psL ps (useful x y ps))) := fun j => by
    rw [ones_words (q := psL ps (useful x y ps)) (sub_filter R.la hb), tk_words g R.la hq j (ones L) fun t ht => (ones_ne t ht).1, WK_ones]
  have len : ∀ j, j ≤ 4 → (tk (psL ps (useful x y ps)) j (ones (both x (useful x y ps)))).length ≤ 5000 := fun j hj => by
    rw [key j]
    refine Nat.le_trans (List.length_filter_le ..) ?_
    rw [WK_len]
    exact Nat.le_trans (pow4 hl (by omega)) (by decide)
  rw [texts_ev (bn := bn) (tm := tm) M h1 (by omega) (fun j hj => len _ (by omega)) (fun t ht => by
    rw [key] at ht
    obtain ⟨t1, t2⟩ := WK_mem L _ t (List.mem_filter.mp ht).1
    have hn : t ≠ [] := fun z => by rw [z] at t1; simp at t1
    have : t.getLastD 0 ∈ t := by
      cases t with
      | nil => exact absurd rfl hn
      | cons a t =>
        rw [List.getLastD_eq_getLast?, List.getLast?_eq_some_getLast (List.cons_ne_nil a t)]
        exact List.getLast_mem _
    exact h.ua _ (t2 _ this))]
  rw [tk_isT g R.la hq hb (k - 1)]
  obtain ⟨j, rfl⟩ : ∃ j, k = j + 1 := ⟨k - 1, by omega⟩
  rw [Nat.add_sub_cancel, ← WK_ones]
  unfold due
  congr 4
  exact List.filter_congr fun t _ => isT_useful h t
end Cm

namespace K07
open PySem PySem.Spec PyProof.Rows L2
def top (i : Nat) : Stmt := PySem.Challenge.pw_followface_k07_texts_of_manners.main.body.getD i (.Pass ⟨0, 0, 0, 0⟩)
end K07

namespace K07
open PySem PySem.Spec L2 Gd
abbrev sWell : Stmt := top 20
abbrev sDraw : Stmt := top 21
abbrev sOne : Stmt := top 22
/-- the well at a: its cells at l, n draws at most were begun -/
def WellAt (H : Hp) (a l : Addr) (ns : List Int) (n : Nat) : Prop := a ≠ l ∧ H l = some (.lst (ns.map V.int)) ∧ ∃ t r : Int, 0 ≤ t ∧ t ≤ (n : Int) ∧ 0 ≤ r ∧ H a = some (.lst [.ref l, .int t, .int r])
def spDraw : Sp := fun vs H Q _ => ∃ (a l : Addr) (ns : List Int) (n : Nat) (many : Int), vs = [.ref a, .int many] ∧ many < 1073741824 ∧ WellAt H a l ns n ∧ n ≤ 1048576 ∧ ns.length ≤ 60 ∧
  ∀ (v : Int) (H' : Hp), 0 ≤ v → (v = 0 ∨ v < many) → WellAt H' a l ns (n + 1) → (∀ b, b ≠ a → (∀ o, H b = some o → H' b = some o)) → Q (.int v) H'
theorem WellAt.more {H : Hp} {a l : Addr} {ns : List Int} {n m : Nat} (h : WellAt H a l ns n) (hm : n ≤ m) : WellAt H a l ns m := by
  obtain ⟨h1, h2, t, r, h3, h4, h5, h6⟩ := h
  exact ⟨h1, h2, t, r, h3, by omega, h5, h6⟩
theorem WellAt.put {H : Hp} {a l : Addr} {ns : List Int} {n : Nat} {t r : Int} (hal : a ≠ l) (hL : H l = some (.lst (ns.map V.int))) (ht : 0 ≤ t) (htn : t ≤ (n : Int)) (hr : 0 ≤ r) : WellAt (upd H a (.lst [.ref l, .int t, .int r])) a l ns n :=
  ⟨hal, by rw [upd_ne hal.symm]; exact hL, t, r, ht, htn, hr, upd_same⟩
theorem fmod_range (x m : Int) (h : 2 ≤ m) : 0 ≤ x.fmod m ∧ x.fmod m < m := ⟨Int.fmod_nonneg_of_pos x (by omega), Int.fmod_lt_of_pos x (by omega)⟩
theorem fdiv_nn {x m : Int} (hx : 0 ≤ x) (h : 2 ≤ m) : 0 ≤ x.fdiv m := Int.fdiv_nonneg hx (by omega)
structure TxtD (mg : Str → Option Value) : Prop where
  int : mg "int" = none
  len : mg "len" = none
  abs : mg "abs" = none
theorem dpInts {K : PySem.W.Frag} {H : Hp} : ∀ ns : List Int, DpAll K H (ns.map V.int) (ns.map PyData.int)
  | [] => .nil
  | n :: ns => .cons (.int n) (dpInts ns)
theorem shapedInts (ns : List Int) : SeqAt.shaped (.list (ns.map PyData.int)) = true := by
  have h : ∀ ns : List Int, PyData.canLayAll0 (ns.map PyData.int) = true ∧ PyData.depthAll (ns.map PyData.int) = 0 := by
    intro ns
    induction ns with
    | nil => exact ⟨rfl, rfl⟩
    | cons n ns ih =>
      refine ⟨?_, ?_⟩
      · show (PyData.canLay0 (.int n) && PyData.canLayAll0 (ns.map PyData.int)) = true
        rw [ih.1]
        rfl
      · show max (PyData.depth (.int n)) (PyData.depthAll (ns.map PyData.int)) = 0
        rw [ih.2]
        rfl
  unfold SeqAt.shaped
  show (PyData.canLayAll0 (ns.map PyData.int) && decide (PyData.depthAll (ns.map PyData.int) + 1 ≤ 64)) = true
  rw [(h ns).1, (h ns).2]
  rfl
section
variable {P : Program} {w : World} {K : PySem.W.Frag} {mg : Str → Option Value} {base : Heap}
theorem scD : FnScope ["well", "many", "rest", "turn", "cell", "mixed"] ["well", "many"] (defScope sDraw) := ⟨rfl, rfl, rfl, by decide +kernel, rfl, by decide +kernel, by decide +kernel⟩
theorem ok_draw {f : Addr} {fd : FuncData} (F : Fun K "_law_draw" "_law_draw" sDraw f fd) (T : TxtD mg) : FnOk P w K mg base CX0 1 f fd ["well", "many"] spDraw := by
  refine F.ok scD (fun vs H Q E h => ?_) (fun cdv A outer s H vs Q E hr h => ?_)
  · obtain ⟨a, l, ns, n, many, rfl, _⟩ := h
    rfl
  · have hu := hr.units
    refine ⟨_, pss_cons (ps_if (pt_cmpR op_lt (pv 1) pe_int (nomark _)) (pss_one (ps_ret pe_int)) pss_nil)
      (pss_cons (ps_if (pt_cmpR op_gt (pe_ix ix_list (pv 0) pe_int (fun _ _ => rfl)) pe_int (nomark _))
          (pss_cons (ps_set (i := 2) scD.nd rfl (Or.inl rfl) (pe_callTy call_int1 (by rfl) T.int (by decide +kernel) (pa_cons (pe_ix ix_list (pv 0) pe_int (fun _ _ => rfl)) pa_nil)))
          (pss_cons (ps_asg (pe_op op_fdivN (pv 2) (pv 1)) (pg_sub (pv 0) pe_int set_list))
          (pss_one (ps_ret (pe_op op_modN (pe_callTy call_int1 (by rfl) T.int (by decide +kernel) (pa_cons (pv 2) pa_nil)) (pv 1)))))) pss_nil)
      (pss_cons (ps_set (i := 3) scD.nd rfl (Or.inl rfl) (pe_ix ix_list (pv 0) pe_int (fun _ _ => rfl)))
      (pss_cons (ps_asg (pe_op op_add (pv 3) pe_int) (pg_sub (pv 0) pe_int set_list))
      (pss_cons (ps_set (i := 4) scD.nd rfl (Or.inl rfl) (pe_op op_add (pe_op op_mul pe_int (pv 3)) pe_int))
      (C8.pss_cut (ps_if (pt_cmpR (op_neD hu) (pe_ix ix_list (pv 0) pe_int (fun _ _ => rfl)) (pe_lst pa_nil) (nomark _))
          (pss_one (ps_set (i := 4) scD.nd rfl (Or.inl rfl) (pe_ix ix_list (pe_ix ix_list (pv 0) pe_int (fun _ _ => rfl)) (pe_op op_modN (pe_callTy call_int1 (by rfl) T.int (by decide +kernel) (pa_cons (pv 3) pa_nil)) (pe_callB call_len_seq (by rfl) T.len PySem.boot_len (pa_cons (pe_ix ix_list (pv 0) pe_int (fun _ _ => rfl)) pa_nil))) (fun _ _ => rfl)))) pss_nil)
      (C8.pss_cut (ps_if (PW.pt (pw_and (pt_cmpR op_lt (pv 3) (pe_callB call_len_seq (by rfl) T.len PySem.boot_len (pa_cons (pe_ix ix_list (pv 0) pe_int (fun _ _ => rfl)) pa_nil)) (nomark _)) (pw_and1 (pt_cmpR op_ge (pe_callB call_abs (by rfl) T.abs (by decide +kernel) (pa_cons (pv 4) pa_nil)) (pe_op op_pow pe_int pe_int) (nomark _)))))
          (pss_cons (ps_set (i := 2) scD.nd rfl (Or.inl rfl) (pe_op op_add (pe_op op_mul pe_int (pe_op op_sub (pe_callB call_abs (by rfl) T.abs (by decide +kernel) (pa_cons (pv 4) pa_nil)) (pe_op op_pow pe_int pe_int))) (pe_callTy call_int1 (by rfl) T.int (by decide +kernel) (pa_cons (pe_cmpR op_lt (pv 4) pe_int (nomark _)) pa_nil))))
          (pss_cons (ps_asg (pe_op op_fdivN (pv 2) (pv 1)) (pg_sub (pv 0) pe_int set_list))
          (pss_one (ps_ret (pe_op op_modN (pe_callTy call_int1 (by rfl) T.int (by decide +kernel) (pa_cons (pv 2) pa_nil)) (pv 1)))))) pss_nil)
      (pss_cons (ps_set (i := 5) scD.nd rfl (Or.inl rfl) (pe_op op_modN (pe_callTy call_int1 (by rfl) T.int (by decide +kernel) (pa_cons (pe_op op_pow (pe_op op_add (pe_op op_add (pe_op op_modN (pe_callTy call_int1 (by rfl) T.int (by decide +kernel) (pa_cons (pv 4) pa_nil)) pe_int) (pe_op op_mul pe_int (pv 3))) pe_int) pe_int) pa_nil)) pe_int))
      (pss_cons (ps_set (i := 5) scD.nd rfl (Or.inl rfl) (pe_op op_modN (pe_callTy call_int1 (by rfl) T.int (by decide +kernel) (pa_cons (pe_op op_pow (pe_op op_add (pe_op op_add (pe_op op_mul (pv 5) (pe_op op_add (pe_op op_mul pe_int (pv 3)) pe_int)) (pe_op op_mul (pe_op op_mul pe_int (pv 3)) (pv 3))) pe_int) pe_int) pa_nil)) pe_int))
      (pss_one (ps_ret (pe_op op_modN (pe_callTy call_int1 (by rfl) T.int (by decide +kernel) (pa_cons (pe_op op_fdivN (pv 5) pe_int) pa_nil)) (pv 1)))))))))))), ?_⟩
    obtain ⟨a, l, ns, n, many, rfl, hmany, ⟨hal, hL, t, r, ht0, htn, hr0, hA⟩, hn, hlen, k⟩ := h
    have dpl : ∀ (H1 : Hp), H1 l = some (.lst (ns.map V.int)) → Dp K H1 (.ref l) (.list (ns.map PyData.int)) := fun H1 e => .lst (SqL.of e) (dpInts ns)
    -- if many < 2: return 0
    refine ⟨_, rfl, _, _, rfl, rfl, _, rfl, ite2 (fun c => ?_) (fun c => ?_)⟩
    · exact k 0 _ (Int.le_refl _) (.inl rfl) ⟨hal, hL, t, r, ht0, by omega, hr0, hA⟩ fun b _ o e => e
    have hm2 : 2 ≤ many := by
      have := of_decide_eq_false (Bool.eq_false_iff.mpr c)
      omega
    -- if well[2] > 0
    refine ⟨_, rfl, _, _, _, _, rfl, rfl, SqL.of hA, rfl, _, _, rfl, rfl, _, rfl, ite2 (fun c2 => ?_) (fun c2 => ?_)⟩
    · refine ⟨_, rfl, _, _, _, _, rfl, rfl, SqL.of hA, rfl, .inl ⟨_, rfl, ?_⟩⟩
      refine ⟨_, rfl, _, rfl, _, _, rfl, rfl, ⟨by omega, by omega⟩, _, rfl, _, _, _, _, rfl, rfl, hA, rfl, ?_⟩
      refine ⟨_, rfl, .inl ⟨_, rfl, _, rfl, _, _, rfl, rfl, by omega, ?_⟩⟩
      refine k _ _ (fmod_range _ _ hm2).1 (.inr (fmod_range _ _ hm2).2) (WellAt.put hal hL ht0 (by omega) (fdiv_nn hr0 hm2)) fun b hb o e => ?_
      rw [upd_ne hb]
      exact e
    -- turn = well[1]; well[1] = turn + 1; cell = c1 * turn + c2
    refine ⟨_, rfl, _, _, _, _, rfl, rfl, SqL.of hA, rfl, ?_⟩
    refine ⟨_, rfl, _, _, rfl, rfl, _, rfl, _, _, _, _, rfl, rfl, hA, rfl, ?_⟩
    have W1 : WellAt (upd H a (.lst [.ref l, .int (t + 1), .int r])) a l ns (n + 1) := WellAt.put hal hL (by omega) (by omega) hr0
    have hA1 : upd H a (.lst [.ref l, .int (t + 1), .int r]) a = some (.lst [.ref l, .int (t + 1), .int r]) := upd_same
    have hL1 : upd H a (.lst [.ref l, .int (t + 1), .int r]) l = some (.lst (ns.map V.int)) := by rw [upd_ne hal.symm]; exact hL
    have k1 : ∀ b, b ≠ a → ∀ o, H b = some o → upd H a (.lst [.ref l, .int (t + 1), .int r]) b = some o := fun b hb o e => by rw [upd_ne hb]; exact e
    show tSeq _ _ _ _ (upd H a (.lst [.ref l, .int (t + 1), .int r]))
    revert W1 hA1 hL1 k1
    generalize upd H a (.lst [.ref l, .int (t + 1), .int r]) = H1
    intro W1 hA1 hL1 k1
    refine ⟨_, rfl, _, _, rfl, rfl, .inl ⟨by decide, by decide⟩, _, _, rfl, rfl, ?_⟩
    -- if well[0] != []: behind it cell is some int, and [] may stand beside
    refine ⟨fun σ' H' => ∃ (c : Int), σ' = [some (.ref a), some (.int many), none, some (.int t), some (.int c), none] ∧ WellAt H' a l ns (n + 1) ∧ H' a = some (.lst [.ref l, .int (t + 1), .int r]) ∧ H' l = some (.lst (ns.map V.int)) ∧ ∀ b, b ≠ a → ∀ o, H b = some o → H' b = some o, ?_, ?_⟩
    · refine ⟨_, rfl, _, _, _, _, rfl, rfl, SqL.of hA1, rfl, Nat.zero_le _, fun p hp => ?_⟩
      have npa : a ≠ p := ne_of_none hA1 hp
      have npl : l ≠ p := ne_of_none hL1 hp
      have hA2 : upd H1 p (.lst []) a = some (.lst [.ref l, .int (t + 1), .int r]) := by rw [upd_ne npa]; exact hA1
      have hL2 : upd H1 p (.lst []) l = some (.lst (ns.map V.int)) := by rw [upd_ne npl]; exact hL1
      have k2 : ∀ b, b ≠ a → ∀ o, H b = some o → upd H1 p (.lst []) b = some o := fun b hb o e => by
        rw [upd_ne (ne_of_none (k1 b hb o e) hp)]
        exact k1 b hb o e
      have dp : Dp K (upd H1 p (.lst [])) (.ref p) (.list []) := .lst (SqL.of upd_same) .nil
      have W2 : WellAt (upd H1 p (.lst [])) a l ns (n + 1) := ⟨hal, hL2, t + 1, r, by omega, by omega, hr0, hA2⟩
      revert hA2 hL2 k2 dp W2
      generalize upd H1 p (.lst []) = H2
      intro hA2 hL2 k2 dp W2
      refine ⟨_, _, dpl _ hL2, dp, shapedInts ns, by decide, _, rfl, ite2 (fun c3 => ?_) (fun c3 => ?_)⟩
      · have hne : ns ≠ [] := fun e => by
          rw [e] at c3
          exact absurd c3 (by decide)
        have hlp : 0 < ns.length := List.length_pos_iff.mpr hne
        obtain ⟨j, hj, hjl⟩ : ∃ j : Nat, t.fmod (ns.length : Int) = (j : Int) ∧ j < ns.length := by
          have h1 := Int.fmod_nonneg_of_pos t (b := (ns.length : Int)) (by omega)
          have h2 := Int.fmod_lt_of_pos t (b := (ns.length : Int)) (by omega)
          exact ⟨(t.fmod (ns.length : Int)).toNat, by omega, by omega⟩
        refine ⟨_, rfl, _, _, _, _, rfl, rfl, SqL.of hA2, rfl, ?_⟩
        refine ⟨_, rfl, .inl ⟨_, rfl, ?_⟩⟩
        refine ⟨_, rfl, _, _, _, _, rfl, rfl, SqL.of hA2, rfl, l, _, rfl, .inl (SqL.of hL2), ?_⟩
        refine ⟨_, _, rfl, rfl, by rw [List.length_map]; omega, l, _, _, .int (ns[j]'hjl), rfl, rfl, SqL.of hL2, ?_, ?_⟩
        · rw [List.length_map, hj]
          exact atI_nat (by rw [List.getElem?_map, List.getElem?_eq_getElem hjl]; rfl)
        · exact ⟨_, rfl, W2, hA2, hL2, k2⟩
      · exact ⟨_, rfl, W2, hA2, hL2, k2⟩
    · rintro σ' H3 ⟨c, rfl, W3, hA3, hL3, k3⟩
      have fin : ∀ (m : Int) (H' : Hp), WellAt H' a l ns (n + 1) → (∀ b, b ≠ a → ∀ o, H b = some o → H' b = some o) → Q (.int (m.fmod many)) H' := fun m H' W' k' => k _ _ (fmod_range _ _ hm2).1 (.inr (fmod_range _ _ hm2).2) W' k'
      refine ⟨fun σ' H' => σ' = [some (.ref a), some (.int many), none, some (.int t), some (.int c), none] ∧ H' = H3, ?_, ?_⟩
      · refine ⟨_, rfl, _, rfl, _, _, _, _, rfl, rfl, SqL.of hA3, rfl, l, _, rfl, .inl (SqL.of hL3), _, _, rfl, rfl, _, rfl, ite2 (fun c4 => ?_) (fun c4 => iteF ⟨rfl, rfl⟩)⟩
        refine ⟨_, rfl, _, rfl, _, _, rfl, rfl, ⟨by decide, by decide, by decide⟩, _, _, rfl, rfl, _, rfl, ite2 (fun c5 => ?_) (fun c5 => ⟨rfl, rfl⟩)⟩
        have hbig : (10 : Int) ^ (18 : Int).toNat ≤ (if c < 0 then -c else c) := of_decide_eq_true c5
        refine ⟨_, rfl, _, rfl, _, _, rfl, rfl, ⟨by decide, by decide, by decide⟩, _, _, rfl, rfl, _, _, rfl, rfl, .inl ⟨by decide, by decide⟩, _, rfl, _, _, rfl, rfl, .inr ⟨_, rfl, _, _, rfl, rfl, ?_⟩⟩
        refine ⟨_, rfl, _, rfl, _, _, rfl, rfl, ⟨by omega, by omega⟩, _, rfl, _, _, _, _, rfl, rfl, hA3, rfl, ?_⟩
        refine ⟨_, rfl, .inl ⟨_, rfl, _, rfl, _, _, rfl, rfl, by omega, ?_⟩⟩
        refine fin _ _ (WellAt.put hal hL3 (by omega) (by omega) (fdiv_nn ?_ hm2)) fun b hb o e => ?_
        · have h0 : (0 : Int) ≤ (if decide (c < 0) = true then 1 else 0) := by split <;> decide
          omega
        · rw [upd_ne hb]
          exact k3 b hb o e
      · rintro σ' H' ⟨rfl, rfl⟩
        have m0 : ∀ (x m : Int), 0 < m → 0 ≤ x.fmod m ∧ x.fmod m < m := fun x m h => ⟨Int.fmod_nonneg_of_pos x h, Int.fmod_lt_of_pos x h⟩
        have b1 := m0 c 2147483549 (by decide)
        refine ⟨_, rfl, .inl ⟨_, rfl, _, _, rfl, rfl, (show (2147483549 : Int) ≠ 0 by decide), _, rfl, _, _, rfl, rfl, .inl ⟨by decide, by decide⟩, _, _, rfl, rfl, _, _, rfl, rfl, _, _, rfl, rfl, ⟨by decide, by decide, by omega⟩, .inl ⟨_, rfl, _, _, rfl, rfl, (show (2147483587 : Int) ≠ 0 by decide), ?_⟩⟩⟩
        have b2 := m0 ((c.fmod 2147483549 + 34113 * t + 7680) ^ Int.toNat 5) 2147483587 (by decide)
        have ht2 : 0 ≤ 74139 * t * t ∧ 74139 * t * t ≤ 74139 * 1048576 * 1048576 := ⟨Int.mul_nonneg (by omega) ht0, Int.mul_le_mul (by omega) (by omega) ht0 (by decide)⟩
        have hm2' : 0 ≤ ((c.fmod 2147483549 + 34113 * t + 7680) ^ Int.toNat 5).fmod 2147483587 * (2 * t + 4391) ∧ ((c.fmod 2147483549 + 34113 * t + 7680) ^ Int.toNat 5).fmod 2147483587 * (2 * t + 4391) ≤ 2147483587 * (2 * 1048576 + 4391) := ⟨Int.mul_nonneg b2.1 (by omega), Int.mul_le_mul (by omega) (by omega) (by omega) (by decide)⟩
        refine ⟨_, rfl, _, rfl, _, _, rfl, rfl, .inl ⟨by decide, by decide⟩, _, _, rfl, rfl, _, _, rfl, rfl, .inl ⟨by omega, by omega⟩, _, rfl, _, _, rfl, rfl, .inl ⟨by decide, by decide⟩, _, rfl, _, _, rfl, rfl, .inl ⟨by omega, by omega⟩, _, _, rfl, rfl, _, _, rfl, rfl, _, _, rfl, rfl, ⟨by decide, by decide, by omega⟩, .inl ⟨_, rfl, _, _, rfl, rfl, (show (2147483629 : Int) ≠ 0 by decide), ?_⟩⟩
        exact ⟨_, rfl, _, _, rfl, rfl, ⟨by decide, by decide⟩, .inl ⟨_, rfl, _, rfl, _, _, rfl, rfl, by omega, fin _ _ W3 k3⟩⟩
end
def spWell (K : PySem.W.Frag) : Sp := fun vs H Q _ => ∃ (a : Addr) (ns : List Int), vs = [.ref a] ∧ SqL K H a (ns.map V.int) ∧ ns.length ≤ 63 ∧
  ∀ (p l : Addr) (ms : List Int) (H' : Hp), WellAt H' p l ms 0 → ms.length ≤ 60 → Same H H' → H p = none → Q (.ref p) H'
theorem lc_yes {σ : L2.St} {H : Hp} {A B : Hp → Prop} (h : A H) : tYes σ H (fun b H3 => if b = true then A H3 else B H3) := by
  show if true = true then A H else B H
  rw [if_pos rfl]
  exact h
theorem cut60 (ns : List Int) : cutV (ns.map V.int) none (some 60) = (ns.take 60).map V.int := by
  unfold cutV
  rw [HT.sIx_none, show (60 : Int) = ((60 : Nat) : Int) from rfl, HT.sIx_nat, List.drop_zero, Nat.sub_zero, List.length_map, ← List.map_take]
  congr 1
  by_cases h : 60 ≤ ns.length
  · rw [Nat.min_eq_left h]
  · rw [Nat.min_eq_right (by omega), List.take_of_length_le (Nat.le_refl _), List.take_of_length_le (by omega)]
theorem take_snoc {α : Type} {l : List α} {i : Nat} {x : α} (h : l[i]? = some x) : l.take (i + 1) = l.take i ++ [x] := by
  obtain ⟨hi, e⟩ := List.getElem?_eq_some_iff.mp h
  rw [List.take_succ, h]
  rfl
theorem same_upd {H H' : Hp} {p : Addr} {o : HO} (s : Same H H') (hp : H p = none) : Same H (upd H' p o) := fun b u e => by
  rw [upd_ne (ne_of_none e hp)]
  exact s b u e
section
variable {P : Program} {w : World} {K : PySem.W.Frag} {mg : Str → Option Value} {base : Heap}
theorem scW : FnScope ["script", "cell"] ["script"] (defScope sWell) := ⟨rfl, rfl, rfl, by decide +kernel, rfl, by decide +kernel, by decide +kernel⟩
theorem ok_well {f : Addr} {fd : FuncData} (F : Fun K "_law_well" "_law_well" sWell f fd) (T : TxtD mg) : FnOk P w K mg base CX0 1 f fd ["script"] (spWell K) := by
  refine F.ok scW (fun vs H Q E h => ?_) (fun cdv A outer s H vs Q E hr h => ?_)
  · obtain ⟨a, ns, rfl, _⟩ := h
    rfl
  · obtain ⟨a, ns, rfl, hS, hlen, k⟩ := h
    refine ⟨_, pss_one (ps_ret (pe_lst (pa_cons (pe_lc (own := [("cell", 1)]) (g := gName 1) (tt := tYes) rfl scW.nd (pi_list (pe_slice sl_list (pv 0) po_none (po_some pe_int))) (blkOk_by (N := ["script", "cell"]) (sc := defScope sWell) (by decide +kernel)) (fun _ _ _ _ _ => pg_name (i := 1) scW.nd rfl (Or.inl rfl)) (fun _ _ _ _ _ => pts_nil)
      (fun _ _ _ _ _ => pe_callTy call_int1 (by rfl) T.int (by decide +kernel) (pa_cons (pv 1) pa_nil))) (pa_cons pe_int (pa_cons pe_int pa_nil))))), ?_⟩
    refine ⟨_, rfl, _, rfl, a, _, rfl, hS, fun p hp => ⟨p, rfl, ⟨_, SqL.of upd_same⟩, fun D hD => ?_⟩⟩
    have ndp : p ≠ D := ne_of_none upd_same hD
    have hD0 : H D = none := by
      rw [upd_ne ndp.symm] at hD
      exact hD
    rw [cut60] at hD ⊢
    refine lc_list (K := K) (xs := (ns.take 60).map V.int) (fun i H' => H' p = some (.lst ((ns.take 60).map V.int)) ∧ H' D = some (.lst (((ns.take 60).take i).map V.int)) ∧ Same H H')
      ⟨by rw [upd_ne ndp, upd_same], upd_same, same_upd (same_upd (Same.refl H) hp) hD0⟩ (fun i H' _ z => SqL.of z.1) ?_ ?_
    · rintro i x H' hi ⟨h1, h2, h3⟩
      obtain ⟨m, hm, rfl⟩ : ∃ m, (ns.take 60)[i]? = some m ∧ x = V.int m := by
        rw [List.getElem?_map] at hi
        cases e : (ns.take 60)[i]? with
        | none =>
          rw [e] at hi
          cases hi
        | some m =>
          rw [e] at hi
          exact ⟨m, rfl, (Option.some.inj hi).symm⟩
      refine ⟨rfl, ?_⟩
      refine lc_yes ?_
      refine ⟨_, rfl, .inl ⟨_, rfl, _, h2, ?_, ?_⟩⟩
      · rw [List.length_map, List.length_take, List.length_take]
        exact Nat.lt_of_le_of_lt (show _ ≤ 60 by omega) (by decide)
      · refine ⟨by rw [upd_ne ndp]; exact h1, ?_, same_upd h3 hD0⟩
        rw [upd_same, take_snoc hm, List.map_append]
        rfl
    · rintro H' ⟨h1, h2, h3⟩
      rw [List.length_map, List.take_length] at h2
      refine ⟨by show 3 ≤ sizeLine; decide, fun q hq => ?_⟩
      have nqD : D ≠ q := ne_of_none h2 hq
      refine k q D (ns.take 60) _ ⟨nqD.symm, by rw [upd_ne nqD]; exact h2, 0, 0, Int.le_refl _, Int.le_refl _, Int.le_refl _, upd_same⟩ (by rw [List.length_take]; omega) (same_upd h3 (h3.free hq)) (h3.free hq)
theorem scO : FnScope ["well", "some"] ["well", "some"] (defScope sOne) := ⟨rfl, rfl, rfl, by decide +kernel, rfl, by decide +kernel, by decide +kernel⟩
end
/-! ### in the functional layer's words -/
section
open FL
variable {F : Fc} {n n' : Nat} {vs : List V} {ws : List W} {p : Addr × Addr × List Int} {H' : Hp}
theorem wl_at (h : Ent F n vs ws) (e : F.wl = some p) : WellAt F.H0 p.1 p.2.1 p.2.2 n ∧ p.2.2.length ≤ 60 := by
  obtain ⟨h1, h2, h3, t, r, h4, h5, h6, h7⟩ := h.wel p e
  obtain ⟨n1, h3'⟩ := hid_some h3
  exact ⟨⟨fun z => n1 (z ▸ h1), h3', t, r, h5, h6, h7, h4⟩, h2⟩
theorem wl_ret (h : Ent F n vs ws) (e : F.wl = some p) (W' : WellAt H' p.1 p.2.1 p.2.2 n') (k : ∀ b, b ≠ p.1 → ∀ o, F.H0 b = some o → H' b = some o) {v : V} {d : D} (hv : DV F.K (hid F.M0 H') v d) : Ret F H' n' v d where
  ext := fun b o e2 => by
    obtain ⟨h1, h2⟩ := hid_some e2
    exact hid_mk h1 (k b (fun z => h1 (z ▸ (h.wel p e).1)) o h2)
  frm := fun b hb hw o ho e2 => k b (fun z => hw (.inl ⟨p, e, z⟩)) o e2
  tab := fun q hq => by
    have nl : ∀ b o, F.H0 b = some o → (∀ us, o ≠ HO.lst us) → H' b = some o := fun b o e2 ho => k b (fun z => by
      obtain ⟨_, _, _, t, r, h4, _⟩ := h.wel p e
      rw [z, h4] at e2
      exact ho _ (Option.some.inj e2).symm) o e2
    obtain ⟨ps, a, b, c⟩ := h.tab.1 q hq
    refine ⟨ps, nl _ _ a (fun us z => by cases z), b, fun pos cv e2 => ?_⟩
    obtain ⟨d, rfl, e3⟩ := c pos cv e2
    exact ⟨d, rfl, nl _ _ e3 (fun us z => by cases z)⟩
  al := fun b hb => by
    by_cases z : b = p.1
    · obtain ⟨_, _, t, r, _, _, _, h5⟩ := W'
      exact ⟨_, z ▸ h5⟩
    · obtain ⟨o, eo⟩ := h.al b hb
      exact ⟨o, k b z o eo⟩
  wel := fun q eq => by
    cases e.symm.trans eq
    obtain ⟨_, h2, h3, _⟩ := h.wel p e
    obtain ⟨n1, _⟩ := hid_some h3
    obtain ⟨_, a1, t, r, a2, a3, a4, a5⟩ := W'
    exact ⟨h2, hid_mk n1 a1, t, r, a5, a2, a3, a4⟩
  val := hv
theorem draw_of {K : Kx} (vs : List V) (H : Hp) (Q : VK) (E : XK) (h : spF K gDraw vs H Q E) : spDraw vs H Q E := by
  obtain ⟨F, n, ws, rfl, rfl, en, q⟩ := h
  obtain ⟨m, rfl, h2, h3, k⟩ := gDraw_wp q
  match vs, en.arg with
  | [_, _], .cons ⟨p, e1, rfl⟩ (.cons (.int _) .nil) =>
    obtain ⟨W0, hl⟩ := wl_at en e1
    exact ⟨_, _, _, n, m, rfl, h2, W0, h3, hl, fun v H' v0 v1 W' kp => k v v0 v1 _ _ (wl_ret en e1 W' kp (.int _))⟩
theorem ok_drawF {P : Program} {w : World} {K : Kx} {mg : Str → Option Value} {base : Heap} {f : Addr} {fd : FuncData} (Fu : Fun K.K "_law_draw" "_law_draw" sDraw f fd) (T : TxtD mg) : FnG P w K.K mg base (L2.CX P w) 1 f fd ["well", "many"] (spF K gDraw) := FL.FnG.imp (fnG0 (ok_draw Fu T)) draw_of
end
abbrev f__law_draw : FL.FFn := FL.gDraw
end K07

namespace K07
open PySem PySem.Spec PyProof.Rows L2 Gd Fx Stp LamX Lm FL
structure Tx (P : Program) (w : World) (K : Kx) (mg : Str → Option Value) (base : Heap) : Prop where
  n_all : mg "all" = none
  n_bool : mg "bool" = none
  n_int : mg "int" = none
  n_isinstance : mg "isinstance" = none
  n_len : mg "len" = none
  n_list : mg "list" = none
  n_range : mg "range" = none
  n_repr : mg "repr" = none
  n_set : mg "set" = none
  n_sorted : mg "sorted" = none
  n_str : mg "str" = none
  n_sum : mg "sum" = none
  n_tuple : mg "tuple" = none
  n_zip : mg "zip" = none
  c_LETTERS : GlobF K mg "LETTERS" (.str "abcdefghijklmnopqrstuvwxyz")
  c_MOST_LONG : GlobF K mg "MOST_LONG" (.int 200)
  c_MOST_TEXTS : GlobF K mg "MOST_TEXTS" (.int 5000)
  r_BadManner : ExcF P w K mg base 2 "BadManner" "part"
  r_BadNumber : ExcF P w K mg base 3 "BadNumber" "part"
  r_TooMany : ExcF2 P w K mg base 4 "TooMany" "what" "most"
  h_BadNumber_part : HdF K 3 "part"
  h_TooMany_most : HdF K 4 "most"
  h_TooMany_what : HdF K 4 "what"
  a_begins : AtF K [5] "begins"
  a_ends : AtF K [5] "ends"
  a_firsts : AtF K [5] "firsts"
  a_follows : AtF K [5] "follows"
  a_lasts : AtF K [5] "lasts"
  a_letters : AtF K [5] "letters"
  a_pairs : AtF K [5] "pairs"
  g_BadNumber : mg "BadNumber" = some (.ref (K.ct 3))
  e_BadNumber : ExmF K (.ref (K.ct 3)) [(2, false), (3, true), (4, false)]
  g_TooMany : mg "TooMany" = some (.ref (K.ct 4))
  e_TooMany : ExmF K (.ref (K.ct 4)) [(2, false), (3, false), (4, true)]
section
variable {P : Program} {w : World} {K : Kx} {mg : Str → Option Value} {base : Heap}
def b__law_one : FS := (sRet (fOp dIx (fVar 1) (fCall f__law_draw (fCons (fVar 0) (fCons (fCB rDicts (fCons (fVar 1) fNil)) fNil)))))
def f__law_one : FFn := mk 2 2 b__law_one
theorem ok__law_one {f : Addr} {fd : FuncData} (FU : Fun K.K "_law_one" "_law_one" (top 22) f fd) (T : Tx P w K mg base) (C__law_draw : CalF P w K mg base 1 "_law_draw" f__law_draw) : FnG P w K.K mg base (L2.CX P w) 2 f fd ["well", "some"] (spF K f__law_one) := by
  let st := (top 22)
  let NN : List Str := ["well", "some"]
  have sc : FnScope NN ["well", "some"] (defScope st) := ⟨rfl, rfl, rfl, by decide +kernel, rfl, by decide +kernel, by decide +kernel⟩
  refine okF (k := 1) (N := NN) (fb := b__law_one) FU sc (fun cdv A outer s H E F hK hr => ?_)
  have hu := hr.toRoom.units
  have hu5 := room5 hr.toRoom
  have hg := hr.gd
  cases hK
  unfold b__law_one
  exact (pfb_one (pfs_ret (pf_ix (fv 1) (pf_cal C__law_draw hr (by decide) rfl (pfa_cons (fv 0) (pfa_cons (pf_callB cd_len rfl T.n_len (by decide +kernel) (pfa_cons (fv 1) pfa_nil)) pfa_nil))) (fun _ _ => rfl))))
def b__law_pairs : FS := (sRet (fCB gSumL (fCons (fLc (fIt (fVar 0)) (.one 2) [2] fYes (fLc (fIt (fVar 0)) (.one 1) [1] fYes (fOp dAdd (fVar 2) (fVar 1)))) (fCons (fSeq .list fNil) fNil))))
def f__law_pairs : FFn := mk 3 1 b__law_pairs
theorem ok__law_pairs {f : Addr} {fd : FuncData} (FU : Fun K.K "_law_pairs" "_law_pairs" (top 25) f fd) (T : Tx P w K mg base)  : FnG P w K.K mg base (L2.CX P w) 1 f fd ["letters"] (spF K f__law_pairs) := by
  let st := (top 25)
  let NN : List Str := ["letters", "other", "one"]
  have sc : FnScope NN ["letters"] (defScope st) := ⟨rfl, rfl, rfl, by decide +kernel, rfl, by decide +kernel, by decide +kernel⟩
  refine okF (k := 0) (N := NN) (fb := b__law_pairs) FU sc (fun cdv A outer s H E F hK hr => ?_)
  have hu := hr.toRoom.units
  have hu5 := room5 hr.toRoom
  have hg := hr.gd
  cases hK
  unfold b__law_pairs
  exact (pfb_one (pfs_ret (pf_callB (cd_sumL rfl) rfl T.n_sum (by decide +kernel) (pfa_cons (pf_lc (own := [("one", 2)]) rfl sc.nd (pfi_any (fv 0)) (blkOk_by (N := NN) (sc := defScope st) (by decide +kernel)) rfl rfl (fun _ _ _ _ _ => (pfg_one (i := 2) sc.nd rfl (by first | exact Or.inl rfl | exact Or.inr rfl))) (fun _ _ _ _ _ => pfts_nil) (fun _ _ _ _ _ => (pf_lc (own := [("other", 1)]) rfl sc.nd (pfi_any (fv 0)) (blkOk_by (by kernel_rfl)) rfl rfl (fun _ _ _ _ _ => (pfg_one (i := 1) sc.nd rfl (by first | exact Or.inl rfl | exact Or.inr rfl))) (fun _ _ _ _ _ => pfts_nil) (fun _ _ _ _ _ => (pf_op od_add (fv 2) (fv 1)))))) (pfa_cons (pf_lst pfa_nil) pfa_nil)))))
def b__law_some : FS := (sRet (fLc (fIt (fVar 1)) (.one 3) [3] (fVal (fOp dEq (fCall f__law_draw (fCons (fVar 0) (fCons (fVar 2) fNil))) (fC (.int 0)))) (fVar 3)))
def f__law_some : FFn := mk 4 3 b__law_some
theorem ok__law_some {f : Addr} {fd : FuncData} (FU : Fun K.K "_law_some" "_law_some" (top 23) f fd) (T : Tx P w K mg base) (C__law_draw : CalF P w K mg base 1 "_law_draw" f__law_draw) : FnG P w K.K mg base (L2.CX P w) 2 f fd ["well", "some", "many"] (spF K f__law_some) := by
  let st := (top 23)
  let NN : List Str := ["well", "some", "many", "one"]
  have sc : FnScope NN ["well", "some", "many"] (defScope st) := ⟨rfl, rfl, rfl, by decide +kernel, rfl, by decide +kernel, by decide +kernel⟩
  refine okF (k := 1) (N := NN) (fb := b__law_some) FU sc (fun cdv A outer s H E F hK hr => ?_)
  have hu := hr.toRoom.units
  have hu5 := room5 hr.toRoom
  have hg := hr.gd
  cases hK
  unfold b__law_some
  exact (pfb_one (pfs_ret (pf_lc (own := [("one", 3)]) rfl sc.nd (pfi_any (fv 1)) (blkOk_by (N := NN) (sc := defScope st) (by decide +kernel)) rfl rfl (fun _ _ _ _ _ => (pfg_one (i := 3) sc.nd rfl (by first | exact Or.inl rfl | exact Or.inr rfl))) (fun _ _ _ _ _ => (pfts_one (pft_cmp (od_eq hu) (pf_cal C__law_draw hr (by decide) rfl (pfa_cons (fv 0) (pfa_cons (fv 2) pfa_nil))) fint (nomark _)))) (fun _ _ _ _ _ => (fv 3)))))
def b__law_plain_manner : FS := (sSeq (sPar 2 3 (fCons (fCall f__law_one (fCons (fVar 0) (fCons (fVar 1) fNil))) (fCons (fCall f__law_one (fCons (fVar 0) (fCons (fVar 1) fNil))) fNil))) (sSeq (sSetX 4 (fXlc (fIt (fCall f__law_pairs (fCons (fVar 1) fNil))) (.one 7) [7] (fVal (fOp dEq (fCall f__law_draw (fCons (fVar 0) (fCons (fC (.int 2)) fNil))) (fC (.int 0)))) (fVar 7))) (sSeq (sIf (fAnd (fVal (fOp dNe (fVar 2) (fVar 3))) (fVal (fOp dNotIn2 (fOp dAdd (fVar 2) (fVar 3)) (fVar 4)))) (sApp 4 (fOp dAdd (fVar 2) (fVar 3))) sNext) (sFrz 4 (sSeq (sPar 5 6 (fCons (fSset (fOp dAdd (fSeq .list (fCons (fVar 2) fNil)) (fCall f__law_some (fCons (fVar 0) (fCons (fVar 1) (fCons (fC (.int 3)) fNil)))))) (fCons (fSset (fOp dAdd (fSeq .list (fCons (fVar 3) fNil)) (fCall f__law_some (fCons (fVar 0) (fCons (fVar 1) (fCons (fC (.int 3)) fNil)))))) fNil))) (sRet (fDisp ["firsts", "follows", "lasts"] (fCons (fJoin (fC (.str "")) (fVar 5)) (fCons (fCB gTuple (fCons (fCB gSorted (fCons (fVar 4) fNil)) fNil)) (fCons (fJoin (fC (.str "")) (fVar 6)) fNil))))))))))
def f__law_plain_manner : FFn := mk 8 2 b__law_plain_manner
theorem ok__law_plain_manner {f : Addr} {fd : FuncData} (FU : Fun K.K "_law_plain_manner" "_law_plain_manner" (top 26) f fd) (T : Tx P w K mg base) (C__law_one : CalF P w K mg base 2 "_law_one" f__law_one) (C__law_pairs : CalF P w K mg base 1 "_law_pairs" f__law_pairs) (C__law_draw : CalF P w K mg base 1 "_law_draw" f__law_draw) (C__law_some : CalF P w K mg base 2 "_law_some" f__law_some) : FnG P w K.K mg base (L2.CX P w) 3 f fd ["well", "letters"] (spF K f__law_plain_manner) := by
  let st := (top 26)
  let NN : List Str := ["well", "letters", "first", "last", "follows", "firsts", "lasts", "pair"]
  have sc : FnScope NN ["well", "letters"] (defScope st) := ⟨rfl, rfl, rfl, by decide +kernel, rfl, by decide +kernel, by decide +kernel⟩
  refine okF (k := 2) (N := NN) (fb := b__law_plain_manner) FU sc (fun cdv A outer s H E F hK hr => ?_)
  have hu := hr.toRoom.units
  have hu5 := room5 hr.toRoom
  have hg := hr.gd
  cases hK
  unfold b__law_plain_manner
  exact (pfb_cons (pfs_par (i := 2) (j := 3) rfl sc.nd rfl rfl (by decide) rfl rfl (pfa_cons (pf_cal C__law_one hr (by decide) rfl (pfa_cons (fv 0) (pfa_cons (fv 1) pfa_nil))) (pfa_cons (pf_cal C__law_one hr (by decide) rfl (pfa_cons (fv 0) (pfa_cons (fv 1) pfa_nil))) pfa_nil)) (by rfl)) (pfb_cons (pfs_setXlc (i := 4) (own := [("pair", 7)]) rfl sc.nd rfl rfl (sw_true rfl rfl rfl (by decide +kernel)) (pfi_any (pf_cal C__law_pairs hr (by decide) rfl (pfa_cons (fv 1) pfa_nil))) (blkOk_by (N := NN) (sc := defScope st) (by decide +kernel)) rfl rfl (fun _ _ _ _ _ => (pfg_one (i := 7) sc.nd rfl (by first | exact Or.inl rfl | exact Or.inr rfl))) (fun _ _ _ _ _ => (pfts_one (pft_cmp (od_eq hu) (pf_cal C__law_draw hr (by decide) rfl (pfa_cons (fv 0) (pfa_cons fint pfa_nil))) fint (nomark _)))) (fun _ _ _ _ _ => (fv 7))) (pfb_cons (pfs_if (pfw_t (pfw_and (pft_cmp (od_ne hu) (fv 2) (fv 3) (nomark _)) (pfw_and1 (pft_cmp (od_notin2 hu5) (pf_op od_add (fv 2) (fv 3)) (fv 4) (by rfl))))) (pfb_one (pfs_append (pv 4) (pf_op od_add (fv 2) (fv 3)))) pfb_nil) (pfb_frz 4 (pfb_cons (pfs_par (i := 5) (j := 6) rfl sc.nd rfl rfl (by decide) rfl rfl (pfa_cons (pf_sset rfl rfl T.n_sorted rfl T.n_set (pf_op od_add (pf_lst (pfa_cons (fv 2) pfa_nil)) (pf_cal C__law_some hr (by decide) rfl (pfa_cons (fv 0) (pfa_cons (fv 1) (pfa_cons fint pfa_nil)))))) (pfa_cons (pf_sset rfl rfl T.n_sorted rfl T.n_set (pf_op od_add (pf_lst (pfa_cons (fv 3) pfa_nil)) (pf_cal C__law_some hr (by decide) rfl (pfa_cons (fv 0) (pfa_cons (fv 1) (pfa_cons fint pfa_nil)))))) pfa_nil)) (by rfl)) (pfb_one (pfs_ret (pf_disp (pfp_cons (pf_join fstr (fv 5)) (pfp_cons (pf_callTy cd_tuple rfl T.n_tuple (by decide +kernel) (pfa_cons (pf_callB cd_sorted rfl T.n_sorted (by decide +kernel) (pfa_cons (fv 4) pfa_nil)) pfa_nil)) (pfp_cons (pf_join fstr (fv 6)) pfp_nil)))))))))))
def b_led_from : FS := (sSeq (sParX 2 3 (fXlist2 (fVar 0)) (fXd (fC (.int 0)))) (sSeq (sWhile (fVal (fOp dLt (fVar 3) (fCB rDicts (fCons (fVar 2) fNil)))) (sSeq (sExt 2 (fLc (fIt (fVar 1)) (.one 4) [4] (fAnd (fVal (fOp dEq (fOp dIx (fVar 4) (fC (.int 0))) (fOp dIx (fVar 2) (fVar 3)))) (fVal (fOp dNotIn2 (fOp dIx (fVar 4) (fC (.int 1))) (fVar 2)))) (fOp dIx (fVar 4) (fC (.int 1))))) (sAug 3 (augI fun a b => a + b) (fC (.int 1))))) (sFrz 2 (sRet (fVar 2)))))
def f_led_from : FFn := mk 5 2 b_led_from
theorem ok_led_from {f : Addr} {fd : FuncData} (FU : Fun K.K "led_from" "led_from" (top 17) f fd) (T : Tx P w K mg base)  : FnG P w K.K mg base (L2.CX P w) 1 f fd ["letters", "follows"] (spF K f_led_from) := by
  let st := (top 17)
  let NN : List Str := ["letters", "follows", "found", "at", "pair"]
  have sc : FnScope NN ["letters", "follows"] (defScope st) := ⟨rfl, rfl, rfl, by decide +kernel, rfl, by decide +kernel, by decide +kernel⟩
  refine okF (k := 0) (N := NN) (fb := b_led_from) FU sc (fun cdv A outer s H E F hK hr => ?_)
  have hu := hr.toRoom.units
  have hu5 := room5 hr.toRoom
  have hg := hr.gd
  cases hK
  unfold b_led_from
  exact (pfb_cons (pfs_parXc (i := 2) (j := 3) (fx_list2 rfl rfl T.n_list (fv 0)) (fx_d fint) (pfg_many rfl (.cons (i := 2) sc.nd rfl (Or.inr rfl) (Or.inl rfl) (.cons (i := 3) sc.nd rfl (Or.inr rfl) (Or.inl rfl) .nil)))) (pfb_cons (pfs_while (passes_of rfl) (pft_cmp od_lt (fv 3) (pf_callB cd_len rfl T.n_len (by decide +kernel) (pfa_cons (fv 2) pfa_nil)) (nomark _)) (pfb_cons (pfs_extend (pv 2) (pf_lc (own := [("pair", 4)]) rfl sc.nd (pfi_any (fv 1)) (blkOk_by (N := NN) (sc := defScope st) (by decide +kernel)) rfl rfl (fun _ _ _ _ _ => (pfg_one (i := 4) sc.nd rfl (by first | exact Or.inl rfl | exact Or.inr rfl))) (fun _ _ _ _ _ => (pfts_one (pfw_t (pfw_and (pft_cmp (od_eq hu) (pf_ix (fv 4) fint (fun _ _ => rfl)) (pf_ix (fv 2) (fv 3) (fun _ _ => rfl)) (nomark _)) (pfw_and1 (pft_cmp (od_notin2 hu5) (pf_ix (fv 4) fint (fun _ _ => rfl)) (fv 2) (by rfl))))))) (fun _ _ _ _ _ => (pf_ix (fv 4) fint (fun _ _ => rfl))))) (pfb_one (pfs_augA (i := 3) sc.nd rfl (Or.inr rfl) fint)))) (pfb_frz 2 (pfb_one (pfs_ret (fv 2))))))
def b_ascends : FS := (sRet (fCB gAll (fCons (fLc (fZip (fCons (fVar 0) (fCons (fSlice (fVar 0) (oPart (fC (.int 1))) oNo) fNil))) (.many [1, 2]) [1, 2] fYes (fOp dLt (fVar 1) (fVar 2))) fNil)))
def f_ascends : FFn := mk 3 1 b_ascends
theorem ok_ascends {f : Addr} {fd : FuncData} (FU : Fun K.K "ascends" "ascends" (top 5) f fd) (T : Tx P w K mg base)  : FnG P w K.K mg base (L2.CX P w) 1 f fd ["some"] (spF K f_ascends) := by
  let st := (top 5)
  let NN : List Str := ["some", "one", "other"]
  have sc : FnScope NN ["some"] (defScope st) := ⟨rfl, rfl, rfl, by decide +kernel, rfl, by decide +kernel, by decide +kernel⟩
  refine okF (k := 0) (N := NN) (fb := b_ascends) FU sc (fun cdv A outer s H E F hK hr => ?_)
  have hu := hr.toRoom.units
  have hu5 := room5 hr.toRoom
  have hg := hr.gd
  cases hK
  unfold b_ascends
  exact (pfb_one (pfs_ret (pf_callB (cd_all rfl) rfl T.n_all (by decide +kernel) (pfa_cons (pf_lc (own := [("one", 1), ("other", 2)]) rfl sc.nd (pfi_zip rfl T.n_zip (pfa_cons (fv 0) (pfa_cons (pf_slice (fv 0) (pfo_some fint) pfo_none) pfa_nil))) (blkOk_by (N := NN) (sc := defScope st) (by decide +kernel)) rfl rfl (fun _ _ _ _ _ => (pfg_many rfl (.cons (i := 1) sc.nd rfl (Or.inl rfl) (Or.inr rfl) (.cons (i := 2) sc.nd rfl (Or.inl rfl) (Or.inr rfl) .nil)))) (fun _ _ _ _ _ => pfts_nil) (fun _ _ _ _ _ => (pf_cmp od_lt (fv 1) (fv 2) (nomark _)))) pfa_nil))))
def b_are_letters : FS := (sRet (fAndV (fIsi (some "str") [] (fVar 0)) (fAndV (fCB gAll (fCons (fLc (fIt (fVar 0)) (.one 1) [1] fYes (fOp dIn2 (fVar 1) (fC (.str "abcdefghijklmnopqrstuvwxyz")))) fNil)) (fCall f_ascends (fCons (fVar 0) fNil)))))
def f_are_letters : FFn := mk 2 1 b_are_letters
theorem ok_are_letters {f : Addr} {fd : FuncData} (FU : Fun K.K "are_letters" "are_letters" (top 15) f fd) (T : Tx P w K mg base) (C_ascends : CalF P w K mg base 1 "ascends" f_ascends) : FnG P w K.K mg base (L2.CX P w) 2 f fd ["value"] (spF K f_are_letters) := by
  let st := (top 15)
  let NN : List Str := ["value", "sign"]
  have sc : FnScope NN ["value"] (defScope st) := ⟨rfl, rfl, rfl, by decide +kernel, rfl, by decide +kernel, by decide +kernel⟩
  refine okF (k := 1) (N := NN) (fb := b_are_letters) FU sc (fun cdv A outer s H E F hK hr => ?_)
  have hu := hr.toRoom.units
  have hu5 := room5 hr.toRoom
  have hg := hr.gd
  cases hK
  unfold b_are_letters
  exact (pfb_one (pfs_ret (pf_and (pf_isi w_str (.ty _) rfl T.n_isinstance (fv 0) (pe_bltn (v := .ty "str") rfl T.n_str (by decide +kernel) rfl)) (pf_and (pf_callB (cd_all rfl) rfl T.n_all (by decide +kernel) (pfa_cons (pf_lc (own := [("sign", 1)]) rfl sc.nd (pfi_any (fv 0)) (blkOk_by (N := NN) (sc := defScope st) (by decide +kernel)) rfl rfl (fun _ _ _ _ _ => (pfg_one (i := 1) sc.nd rfl (by first | exact Or.inl rfl | exact Or.inr rfl))) (fun _ _ _ _ _ => pfts_nil) (fun _ _ _ _ _ => (pf_cmp (od_in2 hu5) (fv 1) (pf_globf T.c_LETTERS rfl) (by rfl)))) pfa_nil)) (pf_one (pf_cal C_ascends hr (by decide) rfl (pfa_cons (fv 0) pfa_nil)))))))
def b_is_row : FS := (sRet (fIsi2 (fVar 0)))
def f_is_row : FFn := mk 1 1 b_is_row
theorem ok_is_row {f : Addr} {fd : FuncData} (FU : Fun K.K "is_row" "is_row" (top 4) f fd) (T : Tx P w K mg base)  : FnG P w K.K mg base (L2.CX P w) 1 f fd ["value"] (spF K f_is_row) := by
  let st := (top 4)
  let NN : List Str := ["value"]
  have sc : FnScope NN ["value"] (defScope st) := ⟨rfl, rfl, rfl, by decide +kernel, rfl, by decide +kernel, by decide +kernel⟩
  refine okF (k := 0) (N := NN) (fb := b_is_row) FU sc (fun cdv A outer s H E F hK hr => ?_)
  have hu := hr.toRoom.units
  have hu5 := room5 hr.toRoom
  have hg := hr.gd
  cases hK
  unfold b_is_row
  exact (pfb_one (pfs_ret (pf_isi2 rfl T.n_isinstance (fv 0) (pe_bltn (v := .ty "list") rfl T.n_list (by decide +kernel) rfl) (pe_bltn (v := .ty "tuple") rfl T.n_tuple (by decide +kernel) rfl))))
def b_are_pairs : FS := (sSeq (sIf (fOr (fNot (fVal (fCall f_is_row (fCons (fVar 0) fNil)))) (fNot (fVal (fCB gAll (fCons (fLc (fIt (fVar 0)) (.one 1) [1] fYes (fAndV (fIsi (some "str") [] (fVar 1)) (fOp dEq (fCB rDicts (fCons (fVar 1) fNil)) (fC (.int 2))))) fNil))))) (sRet (fC (.bool false))) sNext) (sRet (fAndV (fCB gAll (fCons (fLc2 1000 (fIt (fVar 0)) (.one 1) [1, 2] fYes (fIt (fVar 1)) (.one 2) [2] fYes (fOp dIn2 (fVar 2) (fC (.str "abcdefghijklmnopqrstuvwxyz")))) fNil)) (fCall f_ascends (fCons (fVar 0) fNil)))))
def f_are_pairs : FFn := mk 3 1 b_are_pairs
theorem ok_are_pairs {f : Addr} {fd : FuncData} (FU : Fun K.K "are_pairs" "are_pairs" (top 16) f fd) (T : Tx P w K mg base) (C_is_row : CalF P w K mg base 1 "is_row" f_is_row) (C_ascends : CalF P w K mg base 1 "ascends" f_ascends) : FnG P w K.K mg base (L2.CX P w) 2 f fd ["value"] (spF K f_are_pairs) := by
  let st := (top 16)
  let NN : List Str := ["value", "pair", "sign"]
  have sc : FnScope NN ["value"] (defScope st) := ⟨rfl, rfl, rfl, by decide +kernel, rfl, by decide +kernel, by decide +kernel⟩
  refine okF (k := 1) (N := NN) (fb := b_are_pairs) FU sc (fun cdv A outer s H E F hK hr => ?_)
  have hu := hr.toRoom.units
  have hu5 := room5 hr.toRoom
  have hg := hr.gd
  cases hK
  unfold b_are_pairs
  exact (pfb_cons (pfs_if (pfw_t (pfw_or (pft_not (pft_val (pf_cal C_is_row hr (by decide) rfl (pfa_cons (fv 0) pfa_nil)))) (pfw_or1 (pft_not (pft_val (pf_callB (cd_all rfl) rfl T.n_all (by decide +kernel) (pfa_cons (pf_lc (own := [("pair", 1)]) rfl sc.nd (pfi_any (fv 0)) (blkOk_by (N := NN) (sc := defScope st) (by decide +kernel)) rfl rfl (fun _ _ _ _ _ => (pfg_one (i := 1) sc.nd rfl (by first | exact Or.inl rfl | exact Or.inr rfl))) (fun _ _ _ _ _ => pfts_nil) (fun _ _ _ _ _ => (pf_and (pf_isi w_str (.ty _) rfl T.n_isinstance (fv 1) (pe_bltn (v := .ty "str") rfl T.n_str (by decide +kernel) rfl)) (pf_one (pf_cmp (od_eq hu) (pf_callB cd_len rfl T.n_len (by decide +kernel) (pfa_cons (fv 1) pfa_nil)) fint (nomark _)))))) pfa_nil))))))) (pfb_one (pfs_ret fbl)) pfb_nil) (pfb_one (pfs_ret (pf_and (pf_callB (cd_all rfl) rfl T.n_all (by decide +kernel) (pfa_cons (pf_lc2 1000 (own := [("pair", 1), ("sign", 2)]) (vs1 := [2]) rfl sc.nd (pfi_any (fv 0)) (blkOk_by (N := NN) (sc := defScope st) (by decide +kernel)) rfl rfl rfl rfl (fun _ _ _ _ _ => (pfg_one (i := 1) sc.nd rfl (by first | exact Or.inl rfl | exact Or.inr rfl))) (fun _ _ _ _ _ => pfts_nil) (fun _ _ _ _ _ => (pfi_any (fv 1))) (fun _ _ _ _ _ => (pfg_one (i := 2) sc.nd rfl (by first | exact Or.inl rfl | exact Or.inr rfl))) (fun _ _ _ _ _ => pfts_nil) (fun _ _ _ _ _ => (pf_cmp (od_in2 hu5) (fv 2) (pf_globf T.c_LETTERS rfl) (by rfl)))) pfa_nil)) (pf_one (pf_cal C_ascends hr (by decide) rfl (pfa_cons (fv 0) pfa_nil)))))))
def b_Manner_init : FS := (sSeq (sIf (fNot (fVal (fCall f_are_letters (fCons (fVar 1) fNil)))) (sRaise1 2 "part" (fC (.str "firsts"))) sNext) (sSeq (sIf (fNot (fVal (fCall f_are_pairs (fCons (fVar 2) fNil)))) (sRaise1 2 "part" (fC (.str "follows"))) sNext) (sSeq (sIf (fNot (fVal (fCall f_are_letters (fCons (fVar 3) fNil)))) (sRaise1 2 "part" (fC (.str "lasts"))) sNext) (sSeq (sSet 4 (fCall f_led_from (fCons (fVar 1) (fCons (fVar 2) fNil)))) (sSeq (sSet 5 (fCall f_led_from (fCons (fVar 3) (fCons (fLc (fIt (fVar 2)) (.one 6) [6] fYes (fRev (fVar 6))) fNil)))) (sSeq (sAt [5] "letters" 0 (fJoin (fC (.str "")) (fCB gSorted (fCons (fLc (fIt (fVar 4)) (.one 7) [7] (fVal (fOp dIn2 (fVar 7) (fVar 5))) (fVar 7)) fNil)))) (sSeq (sIf (fVal (fOp dEq (fAt [5] "letters" (fVar 0)) (fC (.str "")))) (sRaise1 2 "part" (fC (.str "lasts"))) sNext) (sSeq (sAt [5] "firsts" 0 (fVar 1)) (sSeq (sAt [5] "follows" 0 (fCB gTuple (fCons (fVar 2) fNil))) (sSeq (sAt [5] "lasts" 0 (fVar 3)) (sSeq (sAt [5] "begins" 0 (fLc (fIt (fVar 1)) (.one 7) [7] (fVal (fOp dIn2 (fVar 7) (fAt [5] "letters" (fVar 0)))) (fVar 7))) (sSeq (sAt [5] "ends" 0 (fLc (fIt (fVar 3)) (.one 7) [7] (fVal (fOp dIn2 (fVar 7) (fAt [5] "letters" (fVar 0)))) (fVar 7))) (sAt [5] "pairs" 0 (fLc (fIt (fAt [5] "follows" (fVar 0))) (.one 6) [6] (fAnd (fVal (fOp dIn2 (fOp dIx (fVar 6) (fC (.int 0))) (fAt [5] "letters" (fVar 0)))) (fVal (fOp dIn2 (fOp dIx (fVar 6) (fC (.int 1))) (fAt [5] "letters" (fVar 0))))) (fVar 6)))))))))))))))
def f_Manner_init : FFn := mkI 8 3 5 b_Manner_init
theorem ok_Manner_init {f : Addr} {fd : FuncData} (FU : Fun K.K "__init__" "Manner.__init__" (inClass (top 18) 0) f fd) (T : Tx P w K mg base) (C_are_letters : CalF P w K mg base 2 "are_letters" f_are_letters) (C_are_pairs : CalF P w K mg base 2 "are_pairs" f_are_pairs) (C_led_from : CalF P w K mg base 1 "led_from" f_led_from) : FnG P w K.K mg base (L2.CX P w) 3 f fd ["self", "firsts", "follows", "lasts"] (spI K 5 f_Manner_init) := by
  let st := (inClass (top 18) 0)
  let NN : List Str := ["self", "firsts", "follows", "lasts", "ahead", "back", "pair", "letter"]
  have sc : FnScope NN ["self", "firsts", "follows", "lasts"] (defScope st) := ⟨rfl, rfl, rfl, by decide +kernel, rfl, by decide +kernel, by decide +kernel⟩
  refine okI (k := 2) (N := NN) (c := 5) (fb := b_Manner_init) FU sc (by decide) (fun cdv A outer s H E F hK hr => ?_) (by decide)
  have hu := hr.toRoom.units
  have hu5 := room5 hr.toRoom
  have hg := hr.gd
  cases hK
  unfold b_Manner_init
  exact (pfb_cons (pfs_if (pft_not (pft_val (pf_cal C_are_letters hr (by decide) rfl (pfa_cons (fv 1) pfa_nil)))) (pfb_one (pfs_raise rfl T.r_BadManner hr (by decide) rfl fstr)) pfb_nil) (pfb_cons (pfs_if (pft_not (pft_val (pf_cal C_are_pairs hr (by decide) rfl (pfa_cons (fv 2) pfa_nil)))) (pfb_one (pfs_raise rfl T.r_BadManner hr (by decide) rfl fstr)) pfb_nil) (pfb_cons (pfs_if (pft_not (pft_val (pf_cal C_are_letters hr (by decide) rfl (pfa_cons (fv 3) pfa_nil)))) (pfb_one (pfs_raise rfl T.r_BadManner hr (by decide) rfl fstr)) pfb_nil) (pfb_cons (pfs_set (i := 4) sc.nd rfl (Or.inl rfl) (pf_cal C_led_from hr (by decide) rfl (pfa_cons (fv 1) (pfa_cons (fv 2) pfa_nil)))) (pfb_cons (pfs_set (i := 5) sc.nd rfl (Or.inr rfl) (pf_cal C_led_from hr (by decide) rfl (pfa_cons (fv 3) (pfa_cons (pf_lc (own := [("pair", 6)]) rfl sc.nd (pfi_any (fv 2)) (blkOk_by (N := NN) (sc := defScope st) (by decide +kernel)) rfl rfl (fun _ _ _ _ _ => (pfg_one (i := 6) sc.nd rfl (by first | exact Or.inl rfl | exact Or.inr rfl))) (fun _ _ _ _ _ => pfts_nil) (fun _ _ _ _ _ => (pf_rev (fv 6)))) pfa_nil)))) (pfb_cons (pfs_at T.a_letters (pv 0) (pf_join fstr (pf_callB cd_sorted rfl T.n_sorted (by decide +kernel) (pfa_cons (pf_lc (own := [("letter", 7)]) rfl sc.nd (pfi_any (fv 4)) (blkOk_by (N := NN) (sc := defScope st) (by decide +kernel)) rfl rfl (fun _ _ _ _ _ => (pfg_one (i := 7) sc.nd rfl (by first | exact Or.inl rfl | exact Or.inr rfl))) (fun _ _ _ _ _ => (pfts_one (pft_cmp (od_in2 hu5) (fv 7) (fv 5) (by rfl)))) (fun _ _ _ _ _ => (fv 7))) pfa_nil)))) (pfb_cons (pfs_if (pft_cmp (od_eq hu) (pf_at T.a_letters (fv 0)) fstr (nomark _)) (pfb_one (pfs_raise rfl T.r_BadManner hr (by decide) rfl fstr)) pfb_nil) (pfb_cons (pfs_at T.a_firsts (pv 0) (fv 1)) (pfb_cons (pfs_at T.a_follows (pv 0) (pf_callTy cd_tuple rfl T.n_tuple (by decide +kernel) (pfa_cons (fv 2) pfa_nil))) (pfb_cons (pfs_at T.a_lasts (pv 0) (fv 3)) (pfb_cons (pfs_at T.a_begins (pv 0) (pf_lc (own := [("letter", 7)]) rfl sc.nd (pfi_any (fv 1)) (blkOk_by (N := NN) (sc := defScope st) (by decide +kernel)) rfl rfl (fun _ _ _ _ _ => (pfg_one (i := 7) sc.nd rfl (by first | exact Or.inl rfl | exact Or.inr rfl))) (fun _ _ _ _ _ => (pfts_one (pft_cmp (od_in2 hu5) (fv 7) (pf_at T.a_letters (fv 0)) (by rfl)))) (fun _ _ _ _ _ => (fv 7)))) (pfb_cons (pfs_at T.a_ends (pv 0) (pf_lc (own := [("letter", 7)]) rfl sc.nd (pfi_any (fv 3)) (blkOk_by (N := NN) (sc := defScope st) (by decide +kernel)) rfl rfl (fun _ _ _ _ _ => (pfg_one (i := 7) sc.nd rfl (by first | exact Or.inl rfl | exact Or.inr rfl))) (fun _ _ _ _ _ => (pfts_one (pft_cmp (od_in2 hu5) (fv 7) (pf_at T.a_letters (fv 0)) (by rfl)))) (fun _ _ _ _ _ => (fv 7)))) (pfb_one (pfs_at T.a_pairs (pv 0) (pf_lc (own := [("pair", 6)]) rfl sc.nd (pfi_any (pf_at T.a_follows (fv 0))) (blkOk_by (N := NN) (sc := defScope st) (by decide +kernel)) rfl rfl (fun _ _ _ _ _ => (pfg_one (i := 6) sc.nd rfl (by first | exact Or.inl rfl | exact Or.inr rfl))) (fun _ _ _ _ _ => (pfts_one (pfw_t (pfw_and (pft_cmp (od_in2 hu5) (pf_ix (fv 6) fint (fun _ _ => rfl)) (pf_at T.a_letters (fv 0)) (by rfl)) (pfw_and1 (pft_cmp (od_in2 hu5) (pf_ix (fv 6) fint (fun _ _ => rfl)) (pf_at T.a_letters (fv 0)) (by rfl))))))) (fun _ _ _ _ _ => (fv 6)))))))))))))))))
def b_is_integer : FS := (sRet (fAndV (fIsi (some "int") [] (fVar 0)) (fNotV (fIsi (some "bool") [] (fVar 0)))))
def f_is_integer : FFn := mk 1 1 b_is_integer
theorem ok_is_integer {f : Addr} {fd : FuncData} (FU : Fun K.K "is_integer" "is_integer" (top 2) f fd) (T : Tx P w K mg base)  : FnG P w K.K mg base (L2.CX P w) 1 f fd ["value"] (spF K f_is_integer) := by
  let st := (top 2)
  let NN : List Str := ["value"]
  have sc : FnScope NN ["value"] (defScope st) := ⟨rfl, rfl, rfl, by decide +kernel, rfl, by decide +kernel, by decide +kernel⟩
  refine okF (k := 0) (N := NN) (fb := b_is_integer) FU sc (fun cdv A outer s H E F hK hr => ?_)
  have hu := hr.toRoom.units
  have hu5 := room5 hr.toRoom
  have hg := hr.gd
  cases hK
  unfold b_is_integer
  exact (pfb_one (pfs_ret (pf_and (pf_isi w_int (.ty _) rfl T.n_isinstance (fv 0) (pe_bltn (v := .ty "int") rfl T.n_int (by decide +kernel) rfl)) (pf_one (pf_not (pf_isi w_bool (.ty _) rfl T.n_isinstance (fv 0) (pe_bltn (v := .ty "bool") rfl T.n_bool (by decide +kernel) rfl)))))))
def b_is_within : FS := (sRet (fAndV (fCall f_is_integer (fCons (fVar 0) fNil)) (fChn dLe dLe (fVar 1) (fVar 0) (fVar 2))))
def f_is_within : FFn := mk 3 3 b_is_within
theorem ok_is_within {f : Addr} {fd : FuncData} (FU : Fun K.K "is_within" "is_within" (top 3) f fd) (T : Tx P w K mg base) (C_is_integer : CalF P w K mg base 1 "is_integer" f_is_integer) : FnG P w K.K mg base (L2.CX P w) 2 f fd ["value", "least", "most"] (spF K f_is_within) := by
  let st := (top 3)
  let NN : List Str := ["value", "least", "most"]
  have sc : FnScope NN ["value", "least", "most"] (defScope st) := ⟨rfl, rfl, rfl, by decide +kernel, rfl, by decide +kernel, by decide +kernel⟩
  refine okF (k := 1) (N := NN) (fb := b_is_within) FU sc (fun cdv A outer s H E F hK hr => ?_)
  have hu := hr.toRoom.units
  have hu5 := room5 hr.toRoom
  have hg := hr.gd
  cases hK
  unfold b_is_within
  exact (pfb_one (pfs_ret (pf_and (pf_cal C_is_integer hr (by decide) rfl (pfa_cons (fv 0) pfa_nil)) (pf_one (pf_chain od_le od_le (fv 1) (fv 0) (fv 2))))))
def b_Manner_next_to : FS := (sRet (fLc (fIt (fAt [5] "pairs" (fVar 0))) (.one 2) [2] (fVal (fOp dEq (fOp dIx (fVar 2) (fC (.int 0))) (fVar 1))) (fOp dIx (fVar 2) (fC (.int 1)))))
def f_Manner_next_to : FFn := mk 3 2 b_Manner_next_to
theorem ok_Manner_next_to {f : Addr} {fd : FuncData} (FU : Fun K.K "next_to" "Manner.next_to" (inClass (top 18) 2) f fd) (T : Tx P w K mg base)  : FnG P w K.K mg base (L2.CX P w) 1 f fd ["self", "letter"] (spF K f_Manner_next_to) := by
  let st := (inClass (top 18) 2)
  let NN : List Str := ["self", "letter", "pair"]
  have sc : FnScope NN ["self", "letter"] (defScope st) := ⟨rfl, rfl, rfl, by decide +kernel, rfl, by decide +kernel, by decide +kernel⟩
  refine okF (k := 0) (N := NN) (fb := b_Manner_next_to) FU sc (fun cdv A outer s H E F hK hr => ?_)
  have hu := hr.toRoom.units
  have hu5 := room5 hr.toRoom
  have hg := hr.gd
  cases hK
  unfold b_Manner_next_to
  exact (pfb_one (pfs_ret (pf_lc (own := [("pair", 2)]) rfl sc.nd (pfi_any (pf_at T.a_pairs (fv 0))) (blkOk_by (N := NN) (sc := defScope st) (by decide +kernel)) rfl rfl (fun _ _ _ _ _ => (pfg_one (i := 2) sc.nd rfl (by first | exact Or.inl rfl | exact Or.inr rfl))) (fun _ _ _ _ _ => (pfts_one (pft_cmp (od_eq hu) (pf_ix (fv 2) fint (fun _ _ => rfl)) (fv 1) (nomark _)))) (fun _ _ _ _ _ => (pf_ix (fv 2) fint (fun _ _ => rfl))))))
def b_Manner_texts : FS := (sSeq (sIf (fNot (fVal (fCall f_is_within (fCons (fVar 1) (fCons (fC (.int 1)) (fCons (fC (.int 200)) fNil)))))) (sRaise1 3 "part" (fC (.str "many"))) sNext) (sSeq (sSet 2 (fLc (fIt (fAt [5] "begins" (fVar 0))) (.one 4) [4] fYes (fVar 4))) (sSeq (sFor (fRng1 (fOp dSub (fVar 1) (fC (.int 1)))) (.one 3) (sSeq (sSet 2 (fLc2 1000 (fIt (fVar 2)) (.one 5) [5, 4] fYes (fIt (fMethI [5] "next_to" 1 0 [.arg 0, .arg 1] f_Manner_next_to (fVar 0) (fCons (fOp dIx (fVar 5) (fNeg (fC (.int 1)))) fNil) fNil)) (.one 4) [4] fYes (fOp dAdd (fVar 5) (fVar 4)))) (sIf (fVal (fOp dGt (fCB rDicts (fCons (fVar 2) fNil)) (fC (.int 5000)))) (sRaise2 4 "what" "most" (fC (.str "texts")) (fC (.int 5000))) sNext))) (sRet (fCB gTuple (fCons (fLc (fIt (fVar 2)) (.one 5) [5] (fVal (fOp dIn2 (fOp dIx (fVar 5) (fNeg (fC (.int 1)))) (fAt [5] "ends" (fVar 0)))) (fVar 5)) fNil))))))
def f_Manner_texts : FFn := mk 6 2 b_Manner_texts
theorem ok_Manner_texts {f : Addr} {fd : FuncData} (FU : Fun K.K "texts" "Manner.texts" (inClass (top 18) 4) f fd) (T : Tx P w K mg base) (C_is_within : CalF P w K mg base 2 "is_within" f_is_within) (N_Manner_next_to_1 : MeP P w K mg base 1 [5] "next_to" 1 [] [.arg 0, .arg 1] f_Manner_next_to) : FnG P w K.K mg base (L2.CX P w) 3 f fd ["self", "many"] (spF K f_Manner_texts) := by
  let st := (inClass (top 18) 4)
  let NN : List Str := ["self", "many", "found", "turn", "letter", "text"]
  have sc : FnScope NN ["self", "many"] (defScope st) := ⟨rfl, rfl, rfl, by decide +kernel, rfl, by decide +kernel, by decide +kernel⟩
  refine okF (k := 2) (N := NN) (fb := b_Manner_texts) FU sc (fun cdv A outer s H E F hK hr => ?_)
  have hu := hr.toRoom.units
  have hu5 := room5 hr.toRoom
  have hg := hr.gd
  cases hK
  unfold b_Manner_texts
  exact (pfb_cons (pfs_if (pft_not (pft_val (pf_cal C_is_within hr (by decide) rfl (pfa_cons (fv 1) (pfa_cons fint (pfa_cons (pf_globf T.c_MOST_LONG rfl) pfa_nil)))))) (pfb_one (pfs_raise rfl T.r_BadNumber hr (by decide) rfl fstr)) pfb_nil) (pfb_cons (pfs_setLc (i := 2) (own := [("letter", 4)]) rfl sc.nd rfl rfl (sw_true rfl rfl rfl (by decide +kernel)) (pfi_any (pf_at T.a_begins (fv 0))) (blkOk_by (N := NN) (sc := defScope st) (by decide +kernel)) rfl rfl (fun _ _ _ _ _ => (pfg_one (i := 4) sc.nd rfl (by first | exact Or.inl rfl | exact Or.inr rfl))) (fun _ _ _ _ _ => pfts_nil) (fun _ _ _ _ _ => (fv 4))) (pfb_cons (pfs_for (passes_of rfl) rfl (pfi_rng1 rfl T.n_range (pf_op od_sub (fv 1) fint)) (pfg_one (i := 3) sc.nd rfl (Or.inl rfl)) (fun _ => (pfb_cons (pfs_setLc2 1000 (i := 2) (own := [("text", 5), ("letter", 4)]) (vs1 := [4]) rfl sc.nd rfl rfl (sw_true rfl rfl rfl (by decide +kernel)) (pfi_any (fv 2)) (blkOk_by (N := NN) (sc := defScope st) (by decide +kernel)) rfl rfl rfl rfl (fun _ _ _ _ _ => (pfg_one (i := 5) sc.nd rfl (by first | exact Or.inl rfl | exact Or.inr rfl))) (fun _ _ _ _ _ => pfts_nil) (fun _ _ _ _ _ => (pfi_any (pf_meth N_Manner_next_to_1 hr (by decide) (fv 0) (pfa_cons (pf_ix (fv 5) (pf_neg fint) (fun _ _ => rfl)) pfa_nil)))) (fun _ _ _ _ _ => (pfg_one (i := 4) sc.nd rfl (by first | exact Or.inl rfl | exact Or.inr rfl))) (fun _ _ _ _ _ => pfts_nil) (fun _ _ _ _ _ => (pf_op od_add (fv 5) (fv 4)))) (pfb_one (pfs_if (pft_cmp od_gt (pf_callB cd_len rfl T.n_len (by decide +kernel) (pfa_cons (fv 2) pfa_nil)) (pf_globf T.c_MOST_TEXTS rfl) (nomark _)) (pfb_one (pfs_raiseF2 rfl T.r_TooMany hr (by decide) rfl fstr (pf_globf T.c_MOST_TEXTS rfl))) pfb_nil))))) (pfb_one (pfs_ret (pf_callTy cd_tuple rfl T.n_tuple (by decide +kernel) (pfa_cons (pf_lc (own := [("text", 5)]) rfl sc.nd (pfi_any (fv 2)) (blkOk_by (N := NN) (sc := defScope st) (by decide +kernel)) rfl rfl (fun _ _ _ _ _ => (pfg_one (i := 5) sc.nd rfl (by first | exact Or.inl rfl | exact Or.inr rfl))) (fun _ _ _ _ _ => (pfts_one (pft_cmp (od_in2 hu5) (pf_ix (fv 5) (pf_neg fint) (fun _ _ => rfl)) (pf_at T.a_ends (fv 0)) (by rfl)))) (fun _ _ _ _ _ => (fv 5))) pfa_nil)))))))
def b__law_manner : FS := (sRet (fMake 3 0 [.arg 0, .arg 1, .arg 2] f_Manner_init (fCons (fOp dIx2 (fVar 0) (fC (.str "firsts"))) (fCons (fOp dIx2 (fVar 0) (fC (.str "follows"))) (fCons (fOp dIx2 (fVar 0) (fC (.str "lasts"))) fNil))) fNil))
def f__law_manner : FFn := mk 1 1 b__law_manner
theorem ok__law_manner {f : Addr} {fd : FuncData} (FU : Fun K.K "_law_manner" "_law_manner" (top 27) f fd) (T : Tx P w K mg base) (M_Manner_3 : MkP P w K mg base 3 "Manner" 5 3 [] [.arg 0, .arg 1, .arg 2] f_Manner_init) : FnG P w K.K mg base (L2.CX P w) 5 f fd ["plain"] (spF K f__law_manner) := by
  let st := (top 27)
  let NN : List Str := ["plain"]
  have sc : FnScope NN ["plain"] (defScope st) := ⟨rfl, rfl, rfl, by decide +kernel, rfl, by decide +kernel, by decide +kernel⟩
  refine okF (k := 4) (N := NN) (fb := b__law_manner) FU sc (fun cdv A outer s H E F hK hr => ?_)
  have hu := hr.toRoom.units
  have hu5 := room5 hr.toRoom
  have hg := hr.gd
  cases hK
  unfold b__law_manner
  exact (pfb_one (pfs_ret (pf_make M_Manner_3 hr (by decide) rfl (pfa_cons (pf_ix2 hu5 (fv 0) fstr (fun _ _ => rfl)) (pfa_cons (pf_ix2 hu5 (fv 0) fstr (fun _ _ => rfl)) (pfa_cons (pf_ix2 hu5 (fv 0) fstr (fun _ _ => rfl)) pfa_nil))))))
def b__law_word : R D → FS := fun l => (sSeq (sTry (sDrop (fAsk l)) (⟨1, [(2, false), (3, true), (4, false)], (sRet (fSeq .tuple (fCons (fC (.str "number")) (fCons (fXf 1 3 "part") fNil))))⟩ :: (⟨1, [(2, false), (3, false), (4, true)], (sRet (fSeq .tuple (fCons (fXf 1 4 "what") (fCons (fXf 1 4 "most") fNil))))⟩ :: []))) (sRet (fC .none)))
theorem g__law_word {k : Nat} (T : Tx P w K mg base)  : GvF P w K mg base k "_law_word" ["ask", "error"] (defScope (top 28)) (defBody (top 28)) "ask" b__law_word := by
  let st := (top 28)
  let NN : List Str := ["ask", "error"]
  have sc : FnScope NN ["ask"] (defScope st) := ⟨rfl, rfl, rfl, by decide +kernel, rfl, by decide +kernel, by decide +kernel⟩
  intro cdv A outer s H g F l hK hr act
  cases hK
  unfold b__law_word
  exact (pfb_cons (pfs_try rfl rfl sc.nd (fun pn xe => (pfb_one (pfs_expr (act pn xe _ _)))) (.cons (k := ⟨1, [(2, false), (3, true), (4, false)], (sRet (fSeq .tuple (fCons (fC (.str "number")) (fCons (fXf 1 3 "part") fNil))))⟩) rfl rfl ⟨rfl, rfl, .inl T.g_BadNumber⟩ (exm_of T.e_BadNumber) (fun a oe cls d pn hz hf => (pfb_one (pfs_ret (pf_tup (pfa_cons fstr (pfa_cons (pf_xfe T.h_BadNumber_part hz hf (pv 1)) pfa_nil)))))) (.cons (k := ⟨1, [(2, false), (3, false), (4, true)], (sRet (fSeq .tuple (fCons (fXf 1 4 "what") (fCons (fXf 1 4 "most") fNil))))⟩) rfl rfl ⟨rfl, rfl, .inl T.g_TooMany⟩ (exm_of T.e_TooMany) (fun a oe cls d pn hz hf => (pfb_one (pfs_ret (pf_tup (pfa_cons (pf_xfe T.h_TooMany_what hz hf (pv 1)) (pfa_cons (pf_xfe T.h_TooMany_most hz hf (pv 1)) pfa_nil)))))) .nil))) (pfb_one (pfs_ret fnon)))
def b__law_order : FS := (sSeq (sParX 2 3 (fXlist2 (fVar 1)) (fXl fNil)) (sSeq (sWhile (fVal (fOp dNe (fVar 2) (fSeq .list fNil))) (sAppPop 3 2 (fCall f__law_draw (fCons (fVar 0) (fCons (fCB rDicts (fCons (fVar 2) fNil)) fNil))))) (sFrz 3 (sFrz 2 (sRet (fVar 3))))))
def f__law_order : FFn := mk 4 2 b__law_order
theorem ok__law_order {f : Addr} {fd : FuncData} (FU : Fun K.K "_law_order" "_law_order" (top 24) f fd) (T : Tx P w K mg base) (C__law_draw : CalF P w K mg base 1 "_law_draw" f__law_draw) : FnG P w K.K mg base (L2.CX P w) 2 f fd ["well", "some"] (spF K f__law_order) := by
  let st := (top 24)
  let NN : List Str := ["well", "some", "rest", "found"]
  have sc : FnScope NN ["well", "some"] (defScope st) := ⟨rfl, rfl, rfl, by decide +kernel, rfl, by decide +kernel, by decide +kernel⟩
  refine okF (k := 1) (N := NN) (fb := b__law_order) FU sc (fun cdv A outer s H E F hK hr => ?_)
  have hu := hr.toRoom.units
  have hu5 := room5 hr.toRoom
  have hg := hr.gd
  cases hK
  unfold b__law_order
  exact (pfb_cons (pfs_parX (i := 2) (j := 3) rfl sc.nd rfl rfl (by decide) rfl rfl (fx_list2 rfl rfl T.n_list (fv 1)) (fx_lst pfa_nil) (by rfl)) (pfb_cons (pfs_while (passes_of rfl) (pft_cmp (od_ne hu) (fv 2) (pf_lst pfa_nil) (nomark _)) (pfb_one (pfs_apppop (pv 3) (pv 2) (pf_cal C__law_draw hr (by decide) rfl (pfa_cons (fv 0) (pfa_cons (pf_callB cd_len rfl T.n_len (by decide +kernel) (pfa_cons (fv 2) pfa_nil)) pfa_nil)))))) (pfb_frz 3 (pfb_frz 2 (pfb_one (pfs_ret (fv 3)))))))
def b_Manner_has : FS := (sSeq (sIf (fOr (fNot (fVal (fIsi (some "str") [] (fVar 1)))) (fOr (fVal (fOp dEq (fVar 1) (fC (.str "")))) (fOr (fVal (fOp dNotIn2 (fOp dIx (fVar 1) (fC (.int 0))) (fAt [5] "begins" (fVar 0)))) (fVal (fOp dNotIn2 (fOp dIx (fVar 1) (fNeg (fC (.int 1)))) (fAt [5] "ends" (fVar 0))))))) (sRet (fC (.bool false))) sNext) (sSeq (sSet 2 (fDc (fIt (fAt [5] "pairs" (fVar 0))) (.one 3) [3] fYes (fVar 3) (fC (.bool true)))) (sRet (fCB gAll (fCons (fLc (fRng1 (fOp dSub (fCB rDicts (fCons (fVar 1) fNil)) (fC (.int 1)))) (.one 4) [4] fYes (fOp dIn2 (fSlice (fVar 1) (oPart (fVar 4)) (oPart (fOp dAdd (fVar 4) (fC (.int 2))))) (fVar 2))) fNil)))))
def f_Manner_has : FFn := mk 5 2 b_Manner_has
theorem ok_Manner_has {f : Addr} {fd : FuncData} (FU : Fun K.K "has" "Manner.has" (inClass (top 18) 3) f fd) (T : Tx P w K mg base)  : FnG P w K.K mg base (L2.CX P w) 1 f fd ["self", "text"] (spF K f_Manner_has) := by
  let st := (inClass (top 18) 3)
  let NN : List Str := ["self", "text", "known", "pair", "at"]
  have sc : FnScope NN ["self", "text"] (defScope st) := ⟨rfl, rfl, rfl, by decide +kernel, rfl, by decide +kernel, by decide +kernel⟩
  refine okF (k := 0) (N := NN) (fb := b_Manner_has) FU sc (fun cdv A outer s H E F hK hr => ?_)
  have hu := hr.toRoom.units
  have hu5 := room5 hr.toRoom
  have hg := hr.gd
  cases hK
  unfold b_Manner_has
  exact (pfb_cons (pfs_if (pfw_t (pfw_or (pft_not (pft_val (pf_isi w_str (.ty _) rfl T.n_isinstance (fv 1) (pe_bltn (v := .ty "str") rfl T.n_str (by decide +kernel) rfl)))) (pfw_or (pft_cmp (od_eq hu) (fv 1) fstr (nomark _)) (pfw_or (pft_cmp (od_notin2 hu5) (pf_ix (fv 1) fint (fun _ _ => rfl)) (pf_at T.a_begins (fv 0)) (by rfl)) (pfw_or1 (pft_cmp (od_notin2 hu5) (pf_ix (fv 1) (pf_neg fint) (fun _ _ => rfl)) (pf_at T.a_ends (fv 0)) (by rfl))))))) (pfb_one (pfs_ret fbl)) pfb_nil) (pfb_cons (pfs_set (i := 2) sc.nd rfl (Or.inr rfl) (pf_dc (own := [("pair", 3)]) rfl sc.nd (pfi_any (pf_at T.a_pairs (fv 0))) (blkOk_by (N := NN) (sc := defScope st) (by decide +kernel)) rfl rfl (fun _ _ _ _ _ => (pfg_one (i := 3) sc.nd rfl (by first | exact Or.inl rfl | exact Or.inr rfl))) (fun _ _ _ _ _ => pfts_nil) (fun _ _ _ _ _ => (fv 3)) (fun _ _ _ _ _ => fbl))) (pfb_one (pfs_ret (pf_callB (cd_all rfl) rfl T.n_all (by decide +kernel) (pfa_cons (pf_lc (own := [("at", 4)]) rfl sc.nd (pfi_rng1 rfl T.n_range (pf_op od_sub (pf_callB cd_len rfl T.n_len (by decide +kernel) (pfa_cons (fv 1) pfa_nil)) fint)) (blkOk_by (N := NN) (sc := defScope st) (by decide +kernel)) rfl rfl (fun _ _ _ _ _ => (pfg_one (i := 4) sc.nd rfl (by first | exact Or.inl rfl | exact Or.inr rfl))) (fun _ _ _ _ _ => pfts_nil) (fun _ _ _ _ _ => (pf_cmp (od_in2 hu5) (pf_slice (fv 1) (pfo_some (fv 4)) (pfo_some (pf_op od_add (fv 4) fint))) (fv 2) (by rfl)))) pfa_nil))))))
def b__law_is_text : FS := (sSeq (sIf (fOr (fVal (fOp dEq (fVar 1) (fC (.str "")))) (fOr (fVal (fOp dNotIn2 (fOp dIx (fVar 1) (fC (.int 0))) (fOp dIx2 (fVar 0) (fC (.str "firsts"))))) (fVal (fOp dNotIn2 (fOp dIx (fVar 1) (fNeg (fC (.int 1)))) (fOp dIx2 (fVar 0) (fC (.str "lasts"))))))) (sRet (fC (.bool false))) sNext) (sRet (fOp dEq (fLc (fRng1 (fOp dSub (fCB rDicts (fCons (fVar 1) fNil)) (fC (.int 1)))) (.one 2) [2] (fVal (fOp dNotIn2 (fSlice (fVar 1) (oPart (fVar 2)) (oPart (fOp dAdd (fVar 2) (fC (.int 2))))) (fOp dIx2 (fVar 0) (fC (.str "follows"))))) (fVar 2)) (fSeq .list fNil))))
def f__law_is_text : FFn := mk 3 2 b__law_is_text
theorem ok__law_is_text {f : Addr} {fd : FuncData} (FU : Fun K.K "_law_is_text" "_law_is_text" (top 29) f fd) (T : Tx P w K mg base)  : FnG P w K.K mg base (L2.CX P w) 1 f fd ["plain", "text"] (spF K f__law_is_text) := by
  let st := (top 29)
  let NN : List Str := ["plain", "text", "at"]
  have sc : FnScope NN ["plain", "text"] (defScope st) := ⟨rfl, rfl, rfl, by decide +kernel, rfl, by decide +kernel, by decide +kernel⟩
  refine okF (k := 0) (N := NN) (fb := b__law_is_text) FU sc (fun cdv A outer s H E F hK hr => ?_)
  have hu := hr.toRoom.units
  have hu5 := room5 hr.toRoom
  have hg := hr.gd
  cases hK
  unfold b__law_is_text
  exact (pfb_cons (pfs_if (pfw_t (pfw_or (pft_cmp (od_eq hu) (fv 1) fstr (nomark _)) (pfw_or (pft_cmp (od_notin2 hu5) (pf_ix (fv 1) fint (fun _ _ => rfl)) (pf_ix2 hu5 (fv 0) fstr (fun _ _ => rfl)) (by rfl)) (pfw_or1 (pft_cmp (od_notin2 hu5) (pf_ix (fv 1) (pf_neg fint) (fun _ _ => rfl)) (pf_ix2 hu5 (fv 0) fstr (fun _ _ => rfl)) (by rfl)))))) (pfb_one (pfs_ret fbl)) pfb_nil) (pfb_one (pfs_ret (pf_cmp (od_eq hu) (pf_lc (own := [("at", 2)]) rfl sc.nd (pfi_rng1 rfl T.n_range (pf_op od_sub (pf_callB cd_len rfl T.n_len (by decide +kernel) (pfa_cons (fv 1) pfa_nil)) fint)) (blkOk_by (N := NN) (sc := defScope st) (by decide +kernel)) rfl rfl (fun _ _ _ _ _ => (pfg_one (i := 2) sc.nd rfl (by first | exact Or.inl rfl | exact Or.inr rfl))) (fun _ _ _ _ _ => (pfts_one (pft_cmp (od_notin2 hu5) (pf_slice (fv 1) (pfo_some (fv 2)) (pfo_some (pf_op od_add (fv 2) fint))) (pf_ix2 hu5 (fv 0) fstr (fun _ _ => rfl)) (by rfl)))) (fun _ _ _ _ _ => (fv 2))) (pf_lst pfa_nil) (nomark _)))))
def b_law : FS := (sSeq (sFor (fRng1 (fC (.int 3))) (.one 2) (sSeq (sSet 3 (fCB gSorted (fCons (fSlice (fCall f__law_order (fCons (fVar 1) (fCons (fCB gList2 (fCons (fC (.str "abcxyz")) fNil)) fNil))) oNo (oPart (fOp dAdd (fC (.int 1)) (fCall f__law_draw (fCons (fVar 1) (fCons (fC (.int 4)) fNil)))))) fNil))) (sSeq (sSet 4 (fCall f__law_plain_manner (fCons (fVar 1) (fCons (fVar 3) fNil)))) (sSeq (sUnp (.many [5, 6]) (fSeq .tuple (fCons (fCall f__law_manner (fCons (fVar 4) fNil)) (fCons (fSeq .list (fCons (fC (.str "")) fNil)) fNil)))) (sSeq (sFor (fRng2 (fC (.int 1)) (fC (.int 5))) (.one 7) (sSeq (sSet 6 (fCB gSumL (fCons (fLc (fIt (fVar 6)) (.one 13) [13] fYes (fLc (fIt (fVar 3)) (.one 18) [18] fYes (fOp dAdd (fVar 13) (fVar 18)))) (fCons (fSeq .list fNil) fNil)))) (sSeq (sSet 8 (fCB gTuple (fCons (fLc (fIt (fVar 6)) (.one 13) [13] (fVal (fCall f__law_is_text (fCons (fVar 4) (fCons (fVar 13) fNil)))) (fVar 13)) fNil))) (sSeq (sIf (fVal (fOp dNe (fCB gRepr (fCons (fSeq .list (fCons (fMethI [5] "texts" 1 0 [.arg 0, .arg 1] f_Manner_texts (fVar 5) (fCons (fVar 7) fNil) fNil) (fCons (fMethI [5] "texts" 0 1 [.arg 0, .arg 1] f_Manner_texts (fVar 5) fNil (fCons (fVar 7) fNil)) fNil))) fNil)) (fCB gRepr (fCons (fOp dMul2 (fSeq .list (fCons (fVar 8) fNil)) (fC (.int 2))) fNil)))) (sRet (fC (.bool false))) sNext) (sIf (fVal (fOp dNe (fLc (fIt (fVar 6)) (.one 13) [13] (fVal (fOp dNe (fMethI [5] "has" 1 0 [.arg 0, .arg 1] f_Manner_has (fVar 5) (fCons (fVar 13) fNil) fNil) (fOp dIn2 (fVar 13) (fVar 8)))) (fVar 13)) (fSeq .list fNil))) (sRet (fC (.bool false))) sNext))))) (sSeq (sSet 9 (fJoin (fC (.str "")) (fLc (fRng1 (fCall f__law_draw (fCons (fVar 1) (fCons (fC (.int 60)) fNil)))) (.one 19) [19] fYes (fCall f__law_one (fCons (fVar 1) (fCons (fVar 3) fNil)))))) (sSeq (sSet 10 (fCall f__law_one (fCons (fVar 1) (fCons (fCB gList2 (fCons (fOp dIx2 (fVar 4) (fC (.str "firsts"))) fNil)) fNil)))) (sSeq (sFor (fRng1 (fCall f__law_draw (fCons (fVar 1) (fCons (fC (.int 80)) fNil)))) (.one 11) (sSeq (sSet 12 (fLc (fIt (fOp dIx2 (fVar 4) (fC (.str "follows")))) (.one 20) [20] (fVal (fOp dEq (fOp dIx (fVar 20) (fC (.int 0))) (fOp dIx (fVar 10) (fNeg (fC (.int 1)))))) (fOp dIx (fVar 20) (fC (.int 1))))) (sSet 10 (fOp dAdd (fVar 10) (fIfE (fVal (fOp dNe (fVar 12) (fSeq .list fNil))) (fCall f__law_one (fCons (fVar 1) (fCons (fVar 12) fNil))) (fC (.str ""))))))) (sSeq (sFor (fIt (fSeq .tuple (fCons (fVar 9) (fCons (fVar 10) (fCons (fOp dAdd (fVar 10) (fC (.str "w"))) (fCons (fSlice (fVar 10) (oPart (fC (.int 1))) oNo) fNil)))))) (.one 13) (sIf (fVal (fOp dNe (fCB gRepr (fCons (fSeq .list (fCons (fMethI [5] "has" 1 0 [.arg 0, .arg 1] f_Manner_has (fVar 5) (fCons (fVar 13) fNil) fNil) (fCons (fMethI [5] "has" 0 1 [.arg 0, .arg 1] f_Manner_has (fVar 5) fNil (fCons (fVar 13) fNil)) fNil))) fNil)) (fCB gRepr (fCons (fOp dMul2 (fSeq .list (fCons (fCall f__law_is_text (fCons (fVar 4) (fCons (fVar 13) fNil))) fNil)) (fC (.int 2))) fNil)))) (sRet (fC (.bool false))) sNext)) (sSeq (sSet 14 (fCall f__law_one (fCons (fVar 1) (fCons (fSeq .list (fCons (fC .none) (fCons (fC (.int 5)) (fCons (fCB gList2 (fCons (fVar 10) fNil)) (fCons (fSeq .tuple (fCons (fC (.str "a")) fNil)) (fCons (fC (.bool true)) (fCons fEmp fNil))))))) fNil)))) (sSeq (sSet 15 (fCall f__law_one (fCons (fVar 1) (fCons (fSeq .list (fCons (fC .none) (fCons (fC (.int 0)) (fCons (fNeg (fC (.int 1))) (fCons (fC (.bool true)) (fCons (fC (.str "3")) (fCons (fC (.int 201)) (fCons (fOp dPow (fC (.int 10)) (fC (.int 30))) (fCons (fSeq .tuple (fCons (fC (.int 3)) fNil)) fNil))))))))) fNil)))) (sIf (fOr (fVal (fOp dIsNot2 (fMethI [5] "has" 1 0 [.arg 0, .arg 1] f_Manner_has (fVar 5) (fCons (fVar 14) fNil) fNil) (fC (.bool false)))) (fVal (fOp dNe (fLam (fMethI [5] "texts" 1 0 [.arg 0, .arg 1] f_Manner_texts (fVar 5) (fCons (fVar 15) fNil) fNil) 2 b__law_word) (fSeq .tuple (fCons (fC (.str "number")) (fCons (fC (.str "many")) fNil)))))) (sRet (fC (.bool false))) sNext)))))))))))) (sSeq (sUnp (.many [16, 17]) (fSeq .tuple (fCons (fMake 3 0 [.arg 0, .arg 1, .arg 2] f_Manner_init (fCons (fC (.str "ab")) (fCons (fSeq .list (fCons (fC (.str "aa")) (fCons (fC (.str "ab")) (fCons (fC (.str "ba")) (fCons (fC (.str "bb")) fNil))))) (fCons (fC (.str "a")) fNil))) fNil) (fCons (fMake 3 0 [.arg 0, .arg 1, .arg 2] f_Manner_init (fCons (fC (.str "a")) (fCons (fSeq .list (fCons (fC (.str "aa")) fNil)) (fCons (fC (.str "a")) fNil))) fNil) fNil)))) (sSeq (sIf (fOr (fVal (fOp dNe (fLam (fMethI [5] "texts" 1 0 [.arg 0, .arg 1] f_Manner_texts (fVar 16) (fCons (fC (.int 13)) fNil) fNil) 2 b__law_word) (fSeq .tuple (fCons (fC (.str "texts")) (fCons (fC (.int 5000)) fNil))))) (fOr (fVal (fOp dNe (fCB rDicts (fCons (fMethI [5] "texts" 1 0 [.arg 0, .arg 1] f_Manner_texts (fVar 16) (fCons (fC (.int 12)) fNil) fNil) fNil)) (fC (.int 2048)))) (fVal (fOp dNe (fMethI [5] "texts" 1 0 [.arg 0, .arg 1] f_Manner_texts (fVar 17) (fCons (fC (.int 200)) fNil) fNil) (fSeq .tuple (fCons (fOp dMul2 (fC (.str "a")) (fC (.int 200))) fNil)))))) (sRet (fC (.bool false))) sNext) (sRet (fOp dEq (fMethI [5] "texts" 1 0 [.arg 0, .arg 1] f_Manner_texts (fMake 3 0 [.arg 0, .arg 1, .arg 2] f_Manner_init (fCons (fC (.str "a")) (fCons (fSeq .list (fCons (fC (.str "aa")) (fCons (fC (.str "ab")) (fCons (fC (.str "bb")) fNil)))) (fCons (fC (.str "a")) fNil))) fNil) (fCons (fC (.int 3)) fNil) fNil) (fSeq .tuple (fCons (fC (.str "aaa")) fNil)))))))
theorem ok_law {f c Pt fW : Addr} {fd fdW : FuncData} {tb : List (Addr × Str)} (FU : FunC K.K "law" (top 30) f c fd) (T : Tx P w K mg base) (FW : Fun K.K "_law_well" "_law_well" sWell fW fdW) (TD : TxtD mg) (gW : mg "_law_well" = some (.ref fW)) (bW : L2.Binds K.K fdW ["script"] []) (TB : TabB base mg c Pt) (memT : (Pt, lamQ "law" (defScope (top 30))) ∈ tb) (uniT : ∀ p ∈ tb, p.1 = Pt → p.2 = lamQ "law" (defScope (top 30))) (hS : Says b_law 21 1) (C__law_order : CalF P w K mg base 2 "_law_order" f__law_order) (C__law_draw : CalF P w K mg base 1 "_law_draw" f__law_draw) (C__law_plain_manner : CalF P w K mg base 3 "_law_plain_manner" f__law_plain_manner) (C__law_manner : CalF P w K mg base 5 "_law_manner" f__law_manner) (C__law_is_text : CalF P w K mg base 1 "_law_is_text" f__law_is_text) (N_Manner_texts_0_many : MeP P w K mg base 3 [5] "texts" 0 ["many"] [.arg 0, .arg 1] f_Manner_texts) (N_Manner_texts_1 : MeP P w K mg base 3 [5] "texts" 1 [] [.arg 0, .arg 1] f_Manner_texts) (N_Manner_has_1 : MeP P w K mg base 1 [5] "has" 1 [] [.arg 0, .arg 1] f_Manner_has) (C__law_one : CalF P w K mg base 2 "_law_one" f__law_one) (N_Manner_has_0_text : MeP P w K mg base 1 [5] "has" 0 ["text"] [.arg 0, .arg 1] f_Manner_has) (L__law_word : LamK P w K mg base 3 "_law_word" 2 b__law_word) (M_Manner_3 : MkP P w K mg base 3 "Manner" 5 3 [] [.arg 0, .arg 1, .arg 2] f_Manner_init) :
    FnG P w K.K mg base (L2.CX P w) 6 f fd ["script"] (spLaw K.K tb) := by
  let st := (top 30)
  let NN : List Str := ["script", "well", "turn", "letters", "plain", "manner", "some", "many", "due", "long", "walk", "lap", "later", "text", "odd", "bad", "open_one", "thin", "letter", "place", "pair"]
  have sc : FnScope NN ["script"] (defScope st) := ⟨rfl, rfl, rfl, by decide +kernel, rfl, by decide +kernel, by decide +kernel⟩
  refine okLaw (k := 5) (N := NN) (b := b_law) FU sc (ok_well FW TD) gW FW.kp bW (by decide) (fun a ns H Q E hq hl k => ⟨a, ns, rfl, hq, hl, fun p l ms H' W0 h60 s0 np => k p l ms H' W0.1 h60 W0.2.1 W0.2.2 s0⟩) rfl rfl rfl (Or.inr rfl) (by first | exact Or.inl rfl | exact Or.inr (Or.inl rfl)) (fun _ _ _ _ _ => rfl) (fun _ _ _ _ _ => rfl) (fun _ _ _ _ _ => by first | exact Or.inr rfl | exact Or.inl rfl) hS (fun A outer s H E F hK eT hr => ?_)
  have hu := hr.toRoom.units
  have hu5 := room5 hr.toRoom
  have hg := hr.gd
  cases hK
  unfold b_law
  exact (pfb_cons (pfs_for (passes_of rfl) rfl (pfi_rng1 rfl T.n_range fint) (pfg_one (i := 2) sc.nd rfl (Or.inl rfl)) (fun _ => (pfb_cons (pfs_set (i := 3) sc.nd rfl (Or.inr rfl) (pf_callB cd_sorted rfl T.n_sorted (by decide +kernel) (pfa_cons (pf_slice (pf_cal C__law_order hr (by decide) rfl (pfa_cons (fv 1) (pfa_cons (pf_callTy (cd_list2 rfl) rfl T.n_list (by decide +kernel) (pfa_cons fstr pfa_nil)) pfa_nil))) pfo_none (pfo_some (pf_op od_add fint (pf_cal C__law_draw hr (by decide) rfl (pfa_cons (fv 1) (pfa_cons fint pfa_nil)))))) pfa_nil))) (pfb_cons (pfs_set (i := 4) sc.nd rfl (Or.inr rfl) (pf_cal C__law_plain_manner hr (by decide) rfl (pfa_cons (fv 1) (pfa_cons (fv 3) pfa_nil)))) (pfb_cons (pfs_unp (pf_tup (pfa_cons (pf_cal C__law_manner hr (by decide) rfl (pfa_cons (fv 4) pfa_nil)) (pfa_cons (pf_lst (pfa_cons fstr pfa_nil)) pfa_nil))) (pfg_many rfl (.cons (i := 5) sc.nd rfl (Or.inr rfl) (Or.inl rfl) (.cons (i := 6) sc.nd rfl (Or.inl rfl) (Or.inr rfl) .nil)))) (pfb_cons (pfs_for (passes_of rfl) rfl (pfi_rng2 rfl T.n_range fint fint) (pfg_one (i := 7) sc.nd rfl (Or.inl rfl)) (fun _ => (pfb_cons (pfs_set (i := 6) sc.nd rfl (Or.inl rfl) (pf_callB (cd_sumL rfl) rfl T.n_sum (by decide +kernel) (pfa_cons (pf_lc (own := [("text", 13)]) rfl sc.nd (pfi_any (fv 6)) (blkOk_by (N := NN) (sc := defScope st) (by decide +kernel)) rfl rfl (fun _ _ _ _ _ => (pfg_one (i := 13) sc.nd rfl (by first | exact Or.inl rfl | exact Or.inr rfl))) (fun _ _ _ _ _ => pfts_nil) (fun _ _ _ _ _ => (pf_lc (own := [("letter", 18)]) rfl sc.nd (pfi_any (fv 3)) (blkOk_by (by kernel_rfl)) rfl rfl (fun _ _ _ _ _ => (pfg_one (i := 18) sc.nd rfl (by first | exact Or.inl rfl | exact Or.inr rfl))) (fun _ _ _ _ _ => pfts_nil) (fun _ _ _ _ _ => (pf_op od_add (fv 13) (fv 18)))))) (pfa_cons (pf_lst pfa_nil) pfa_nil)))) (pfb_cons (pfs_set (i := 8) sc.nd rfl (Or.inr rfl) (pf_callTy cd_tuple rfl T.n_tuple (by decide +kernel) (pfa_cons (pf_lc (own := [("text", 13)]) rfl sc.nd (pfi_any (fv 6)) (blkOk_by (N := NN) (sc := defScope st) (by decide +kernel)) rfl rfl (fun _ _ _ _ _ => (pfg_one (i := 13) sc.nd rfl (by first | exact Or.inl rfl | exact Or.inr rfl))) (fun _ _ _ _ _ => (pfts_one (pft_val (pf_cal C__law_is_text hr (by decide) rfl (pfa_cons (fv 4) (pfa_cons (fv 13) pfa_nil)))))) (fun _ _ _ _ _ => (fv 13))) pfa_nil))) (pfb_cons (pfs_if (pft_cmp (od_ne hu) (pf_callB (cd_repr hg hu) rfl T.n_repr (by decide +kernel) (pfa_cons (pf_lst (pfa_cons (pf_meth N_Manner_texts_1 hr (by decide) (fv 5) (pfa_cons (fv 7) pfa_nil)) (pfa_cons (pf_methK N_Manner_texts_0_many hr (by decide) (fv 5) (pfk_cons (fv 7) pfk_nil)) pfa_nil))) pfa_nil)) (pf_callB (cd_repr hg hu) rfl T.n_repr (by decide +kernel) (pfa_cons (pf_op od_mul2 (pf_lst (pfa_cons (fv 8) pfa_nil)) fint) pfa_nil)) (nomark _)) (pfb_one (pfs_ret fbl)) pfb_nil) (pfb_one (pfs_if (pft_cmp (od_ne hu) (pf_lc (own := [("text", 13)]) rfl sc.nd (pfi_any (fv 6)) (blkOk_by (N := NN) (sc := defScope st) (by decide +kernel)) rfl rfl (fun _ _ _ _ _ => (pfg_one (i := 13) sc.nd rfl (by first | exact Or.inl rfl | exact Or.inr rfl))) (fun _ _ _ _ _ => (pfts_one (pft_cmp (od_ne hu) (pf_meth N_Manner_has_1 hr (by decide) (fv 5) (pfa_cons (fv 13) pfa_nil)) (pf_cmp (od_in2 hu5) (fv 13) (fv 8) (by rfl)) (nomark _)))) (fun _ _ _ _ _ => (fv 13))) (pf_lst pfa_nil) (nomark _)) (pfb_one (pfs_ret fbl)) pfb_nil))))))) (pfb_cons (pfs_set (i := 9) sc.nd rfl (Or.inl rfl) (pf_join fstr (pf_lc (own := [("place", 19)]) rfl sc.nd (pfi_rng1 rfl T.n_range (pf_cal C__law_draw hr (by decide) rfl (pfa_cons (fv 1) (pfa_cons fint pfa_nil)))) (blkOk_by (N := NN) (sc := defScope st) (by decide +kernel)) rfl rfl (fun _ _ _ _ _ => (pfg_one (i := 19) sc.nd rfl (by first | exact Or.inl rfl | exact Or.inr rfl))) (fun _ _ _ _ _ => pfts_nil) (fun _ _ _ _ _ => (pf_cal C__law_one hr (by decide) rfl (pfa_cons (fv 1) (pfa_cons (fv 3) pfa_nil))))))) (pfb_cons (pfs_set (i := 10) sc.nd rfl (Or.inr rfl) (pf_cal C__law_one hr (by decide) rfl (pfa_cons (fv 1) (pfa_cons (pf_callTy (cd_list2 rfl) rfl T.n_list (by decide +kernel) (pfa_cons (pf_ix2 hu5 (fv 4) fstr (fun _ _ => rfl)) pfa_nil)) pfa_nil)))) (pfb_cons (pfs_for (passes_of rfl) rfl (pfi_rng1 rfl T.n_range (pf_cal C__law_draw hr (by decide) rfl (pfa_cons (fv 1) (pfa_cons fint pfa_nil)))) (pfg_one (i := 11) sc.nd rfl (Or.inl rfl)) (fun _ => (pfb_cons (pfs_setLc (i := 12) (own := [("pair", 20)]) rfl sc.nd rfl rfl (sw_true rfl rfl rfl (by decide +kernel)) (pfi_any (pf_ix2 hu5 (fv 4) fstr (fun _ _ => rfl))) (blkOk_by (N := NN) (sc := defScope st) (by decide +kernel)) rfl rfl (fun _ _ _ _ _ => (pfg_one (i := 20) sc.nd rfl (by first | exact Or.inl rfl | exact Or.inr rfl))) (fun _ _ _ _ _ => (pfts_one (pft_cmp (od_eq hu) (pf_ix (fv 20) fint (fun _ _ => rfl)) (pf_ix (fv 10) (pf_neg fint) (fun _ _ => rfl)) (nomark _)))) (fun _ _ _ _ _ => (pf_ix (fv 20) fint (fun _ _ => rfl)))) (pfb_one (pfs_set (i := 10) sc.nd rfl (Or.inr rfl) (pf_op od_add (fv 10) (pf_if (pft_cmp (od_ne hu) (fv 12) (pf_lst pfa_nil) (nomark _)) (pf_cal C__law_one hr (by decide) rfl (pfa_cons (fv 1) (pfa_cons (fv 12) pfa_nil))) fstr))))))) (pfb_cons (pfs_for (passes_of rfl) rfl (pfi_any (pf_tup (pfa_cons (fv 9) (pfa_cons (fv 10) (pfa_cons (pf_op od_add (fv 10) fstr) (pfa_cons (pf_slice (fv 10) (pfo_some fint) pfo_none) pfa_nil)))))) (pfg_one (i := 13) sc.nd rfl (Or.inl rfl)) (fun _ => (pfb_one (pfs_if (pft_cmp (od_ne hu) (pf_callB (cd_repr hg hu) rfl T.n_repr (by decide +kernel) (pfa_cons (pf_lst (pfa_cons (pf_meth N_Manner_has_1 hr (by decide) (fv 5) (pfa_cons (fv 13) pfa_nil)) (pfa_cons (pf_methK N_Manner_has_0_text hr (by decide) (fv 5) (pfk_cons (fv 13) pfk_nil)) pfa_nil))) pfa_nil)) (pf_callB (cd_repr hg hu) rfl T.n_repr (by decide +kernel) (pfa_cons (pf_op od_mul2 (pf_lst (pfa_cons (pf_cal C__law_is_text hr (by decide) rfl (pfa_cons (fv 4) (pfa_cons (fv 13) pfa_nil))) pfa_nil)) fint) pfa_nil)) (nomark _)) (pfb_one (pfs_ret fbl)) pfb_nil)))) (pfb_cons (pfs_set (i := 14) sc.nd rfl (Or.inl rfl) (pf_cal C__law_one hr (by decide) rfl (pfa_cons (fv 1) (pfa_cons (pf_lst (pfa_cons fnon (pfa_cons fint (pfa_cons (pf_callTy (cd_list2 rfl) rfl T.n_list (by decide +kernel) (pfa_cons (fv 10) pfa_nil)) (pfa_cons (pf_tup (pfa_cons fstr pfa_nil)) (pfa_cons fbl (pfa_cons pf_emp pfa_nil))))))) pfa_nil)))) (pfb_cons (pfs_set (i := 15) sc.nd rfl (Or.inr rfl) (pf_cal C__law_one hr (by decide) rfl (pfa_cons (fv 1) (pfa_cons (pf_lst (pfa_cons fnon (pfa_cons fint (pfa_cons (pf_neg fint) (pfa_cons fbl (pfa_cons fstr (pfa_cons fint (pfa_cons (pf_op od_pow fint fint) (pfa_cons (pf_tup (pfa_cons fint pfa_nil)) pfa_nil))))))))) pfa_nil)))) (pfb_one (pfs_if (pfw_t (pfw_or (pft_cmp od_isnot2 (pf_meth N_Manner_has_1 hr (by decide) (fv 5) (pfa_cons (fv 14) pfa_nil)) fbl (nomark _)) (pfw_or1 (pft_cmp (od_ne hu) (pf_lamk L__law_word eT rfl (made0 TB rfl memT uniT (lamG_by (N := NN) (sc := defScope st) (by decide +kernel)) rfl (fun _ _ _ _ _ _ => rfl)) memT hr (by decide) (lamG_by (N := NN) (sc := defScope st) (by decide +kernel)) (fun A outer s H E f c' F' e1 e2 hr => by
      obtain ⟨_, _, _, _, _, _, _, _, _, _⟩ := F'
      cases e1
      exact (pf_meth N_Manner_texts_1 hr (by decide) (fv 5) (pfa_cons (fv 15) pfa_nil)))) (pf_tup (pfa_cons fstr (pfa_cons fstr pfa_nil))) (nomark _))))) (pfb_one (pfs_ret fbl)) pfb_nil)))))))))))))) (pfb_cons (pfs_unp (pf_tup (pfa_cons (pf_make M_Manner_3 hr (by decide) rfl (pfa_cons fstr (pfa_cons (pf_lst (pfa_cons fstr (pfa_cons fstr (pfa_cons fstr (pfa_cons fstr pfa_nil))))) (pfa_cons fstr pfa_nil)))) (pfa_cons (pf_make M_Manner_3 hr (by decide) rfl (pfa_cons fstr (pfa_cons (pf_lst (pfa_cons fstr pfa_nil)) (pfa_cons fstr pfa_nil)))) pfa_nil))) (pfg_many rfl (.cons (i := 16) sc.nd rfl (Or.inr rfl) (Or.inl rfl) (.cons (i := 17) sc.nd rfl (Or.inl rfl) (Or.inr rfl) .nil)))) (pfb_cons (pfs_if (pfw_t (pfw_or (pft_cmp (od_ne hu) (pf_lamk L__law_word eT rfl (made0 TB rfl memT uniT (lamG_by (N := NN) (sc := defScope st) (by decide +kernel)) rfl (fun _ _ _ _ _ _ => rfl)) memT hr (by decide) (lamG_by (N := NN) (sc := defScope st) (by decide +kernel)) (fun A outer s H E f c' F' e1 e2 hr => by
      obtain ⟨_, _, _, _, _, _, _, _, _, _⟩ := F'
      cases e1
      exact (pf_meth N_Manner_texts_1 hr (by decide) (fv 16) (pfa_cons fint pfa_nil)))) (pf_tup (pfa_cons fstr (pfa_cons fint pfa_nil))) (nomark _)) (pfw_or (pft_cmp (od_ne hu) (pf_callB cd_len rfl T.n_len (by decide +kernel) (pfa_cons (pf_meth N_Manner_texts_1 hr (by decide) (fv 16) (pfa_cons fint pfa_nil)) pfa_nil)) fint (nomark _)) (pfw_or1 (pft_cmp (od_ne hu) (pf_meth N_Manner_texts_1 hr (by decide) (fv 17) (pfa_cons fint pfa_nil)) (pf_tup (pfa_cons (pf_op od_mul2 fstr fint) pfa_nil)) (nomark _)))))) (pfb_one (pfs_ret fbl)) pfb_nil) (pfb_one (pfs_ret (pf_cmp (od_eq hu) (pf_meth N_Manner_texts_1 hr (by decide) (pf_make M_Manner_3 hr (by decide) rfl (pfa_cons fstr (pfa_cons (pf_lst (pfa_cons fstr (pfa_cons fstr (pfa_cons fstr pfa_nil)))) (pfa_cons fstr pfa_nil)))) (pfa_cons fint pfa_nil)) (pf_tup (pfa_cons fstr pfa_nil)) (nomark _)))))))
end
end K07

namespace K07
open PySem PySem.Spec FL Cm
def z0 : FS := (sSet 3 (fCB gSorted (fCons (fSlice (fCall f_order (fCons (fVar 1) (fCons (fCB gList2 (fCons (fC (.str "abcxyz")) fNil)) fNil))) oNo (oPart (fOp dAdd (fC (.int 1)) (fCall gDraw (fCons (fVar 1) (fCons (fC (.int 4)) fNil)))))) fNil)))
def z1 : FS := (sSet 4 (fCall f_plain_manner (fCons (fVar 1) (fCons (fVar 3) fNil))))
def z2 : FS := (sUnp (.many [5, 6]) (fSeq .tuple (fCons (fCall (f_law_manner 5 2) (fCons (fVar 4) fNil)) (fCons (fSeq .list (fCons (fC (.str "")) fNil)) fNil))))
def z3_0 : FS := (sSet 6 (fCB gSumL (fCons (fLc (fIt (fVar 6)) (.one 13) [13] fYes (fLc (fIt (fVar 3)) (.one 18) [18] fYes (fOp dAdd (fVar 13) (fVar 18)))) (fCons (fSeq .list fNil) fNil))))
def z3_1 : FS := (sSet 8 (fCB gTuple (fCons (fLc (fIt (fVar 6)) (.one 13) [13] (fVal (fCall f_is_text (fCons (fVar 4) (fCons (fVar 13) fNil)))) (fVar 13)) fNil)))
def z3_2 : FS := (sIf (fVal (fOp dNe (fCB gRepr (fCons (fSeq .list (fCons (fMethI [5] "texts" 1 0 [.arg 0, .arg 1] (Cm.f_Manner_texts 5 3 4) (fVar 5) (fCons (fVar 7) fNil) fNil) (fCons (fMethI [5] "texts" 0 1 [.arg 0, .arg 1] (Cm.f_Manner_texts 5 3 4) (fVar 5) fNil (fCons (fVar 7) fNil)) fNil))) fNil)) (fCB gRepr (fCons (fOp dMul2 (fSeq .list (fCons (fVar 8) fNil)) (fC (.int 2))) fNil)))) (sRet (fC (.bool false))) sNext)
def z3_3 : FS := (sIf (fVal (fOp dNe (fLc (fIt (fVar 6)) (.one 13) [13] (fVal (fOp dNe (fMethI [5] "has" 1 0 [.arg 0, .arg 1] (Cm.f_Manner_has 5) (fVar 5) (fCons (fVar 13) fNil) fNil) (fOp dIn2 (fVar 13) (fVar 8)))) (fVar 13)) (fSeq .list fNil))) (sRet (fC (.bool false))) sNext)
def z3b : FS := (sSeq z3_0 (sSeq z3_1 (sSeq z3_2 z3_3)))
def z3 : FS := (sFor (fRng2 (fC (.int 1)) (fC (.int 5))) (.one 7) z3b)
def z4 : FS := (sSet 9 (fJoin (fC (.str "")) (fLc (fRng1 (fCall gDraw (fCons (fVar 1) (fCons (fC (.int 60)) fNil)))) (.one 19) [19] fYes (fCall f_one (fCons (fVar 1) (fCons (fVar 3) fNil))))))
def z5 : FS := (sSet 10 (fCall f_one (fCons (fVar 1) (fCons (fCB gList2 (fCons (fOp dIx2 (fVar 4) (fC (.str "firsts"))) fNil)) fNil))))
def z6_0 : FS := (sSet 12 (fLc (fIt (fOp dIx2 (fVar 4) (fC (.str "follows")))) (.one 20) [20] (fVal (fOp dEq (fOp dIx (fVar 20) (fC (.int 0))) (fOp dIx (fVar 10) (fNeg (fC (.int 1)))))) (fOp dIx (fVar 20) (fC (.int 1)))))
def z6_1 : FS := (sSet 10 (fOp dAdd (fVar 10) (fIfE (fVal (fOp dNe (fVar 12) (fSeq .list fNil))) (fCall f_one (fCons (fVar 1) (fCons (fVar 12) fNil))) (fC (.str "")))))
def z6b : FS := (sSeq z6_0 z6_1)
def z6 : FS := (sFor (fRng1 (fCall gDraw (fCons (fVar 1) (fCons (fC (.int 80)) fNil)))) (.one 11) z6b)
def z7_0 : FS := (sIf (fVal (fOp dNe (fCB gRepr (fCons (fSeq .list (fCons (fMethI [5] "has" 1 0 [.arg 0, .arg 1] (Cm.f_Manner_has 5) (fVar 5) (fCons (fVar 13) fNil) fNil) (fCons (fMethI [5] "has" 0 1 [.arg 0, .arg 1] (Cm.f_Manner_has 5) (fVar 5) fNil (fCons (fVar 13) fNil)) fNil))) fNil)) (fCB gRepr (fCons (fOp dMul2 (fSeq .list (fCons (fCall f_is_text (fCons (fVar 4) (fCons (fVar 13) fNil))) fNil)) (fC (.int 2))) fNil)))) (sRet (fC (.bool false))) sNext)
def z7b : FS := z7_0
def z7 : FS := (sFor (fIt (fSeq .tuple (fCons (fVar 9) (fCons (fVar 10) (fCons (fOp dAdd (fVar 10) (fC (.str "w"))) (fCons (fSlice (fVar 10) (oPart (fC (.int 1))) oNo) fNil)))))) (.one 13) z7b)
def z8 : FS := (sSet 14 (fCall f_one (fCons (fVar 1) (fCons (fSeq .list (fCons (fC .none) (fCons (fC (.int 5)) (fCons (fCB gList2 (fCons (fVar 10) fNil)) (fCons (fSeq .tuple (fCons (fC (.str "a")) fNil)) (fCons (fC (.bool true)) (fCons fEmp fNil))))))) fNil))))
def z9 : FS := (sSet 15 (fCall f_one (fCons (fVar 1) (fCons (fSeq .list (fCons (fC .none) (fCons (fC (.int 0)) (fCons (fNeg (fC (.int 1))) (fCons (fC (.bool true)) (fCons (fC (.str "3")) (fCons (fC (.int 201)) (fCons (fOp dPow (fC (.int 10)) (fC (.int 30))) (fCons (fSeq .tuple (fCons (fC (.int 3)) fNil)) fNil))))))))) fNil))))
def z10 : FS := (sIf (fOr (fVal (fOp dIsNot2 (fMethI [5] "has" 1 0 [.arg 0, .arg 1] (Cm.f_Manner_has 5) (fVar 5) (fCons (fVar 14) fNil) fNil) (fC (.bool false)))) (fVal (fOp dNe (fLam (fMethI [5] "texts" 1 0 [.arg 0, .arg 1] (Cm.f_Manner_texts 5 3 4) (fVar 5) (fCons (fVar 15) fNil) fNil) 2 b__law_word) (fSeq .tuple (fCons (fC (.str "number")) (fCons (fC (.str "many")) fNil)))))) (sRet (fC (.bool false))) sNext)
def zBody : FS := (sSeq z0 (sSeq z1 (sSeq z2 (sSeq z3 (sSeq z4 (sSeq z5 (sSeq z6 (sSeq z7 (sSeq z8 (sSeq z9 z10))))))))))
def y0 : FS := (sUnp (.many [16, 17]) (fSeq .tuple (fCons (fMake 3 0 [.arg 0, .arg 1, .arg 2] (Cm.f_Manner_init 5 2) (fCons (fC (.str "ab")) (fCons (fSeq .list (fCons (fC (.str "aa")) (fCons (fC (.str "ab")) (fCons (fC (.str "ba")) (fCons (fC (.str "bb")) fNil))))) (fCons (fC (.str "a")) fNil))) fNil) (fCons (fMake 3 0 [.arg 0, .arg 1, .arg 2] (Cm.f_Manner_init 5 2) (fCons (fC (.str "a")) (fCons (fSeq .list (fCons (fC (.str "aa")) fNil)) (fCons (fC (.str "a")) fNil))) fNil) fNil))))
def y1 : FS := (sIf (fOr (fVal (fOp dNe (fLam (fMethI [5] "texts" 1 0 [.arg 0, .arg 1] (Cm.f_Manner_texts 5 3 4) (fVar 16) (fCons (fC (.int 13)) fNil) fNil) 2 b__law_word) (fSeq .tuple (fCons (fC (.str "texts")) (fCons (fC (.int 5000)) fNil))))) (fOr (fVal (fOp dNe (fCB rDicts (fCons (fMethI [5] "texts" 1 0 [.arg 0, .arg 1] (Cm.f_Manner_texts 5 3 4) (fVar 16) (fCons (fC (.int 12)) fNil) fNil) fNil)) (fC (.int 2048)))) (fVal (fOp dNe (fMethI [5] "texts" 1 0 [.arg 0, .arg 1] (Cm.f_Manner_texts 5 3 4) (fVar 17) (fCons (fC (.int 200)) fNil) fNil) (fSeq .tuple (fCons (fOp dMul2 (fC (.str "a")) (fC (.int 200))) fNil)))))) (sRet (fC (.bool false))) sNext)
def y2 : FS := (sRet (fOp dEq (fMethI [5] "texts" 1 0 [.arg 0, .arg 1] (Cm.f_Manner_texts 5 3 4) (fMake 3 0 [.arg 0, .arg 1, .arg 2] (Cm.f_Manner_init 5 2) (fCons (fC (.str "a")) (fCons (fSeq .list (fCons (fC (.str "aa")) (fCons (fC (.str "ab")) (fCons (fC (.str "bb")) fNil)))) (fCons (fC (.str "a")) fNil))) fNil) (fCons (fC (.int 3)) fNil) fNil) (fSeq .tuple (fCons (fC (.str "aaa")) fNil))))
def zEnd : FS := (sSeq y0 (sSeq y1 y2))
theorem law_eq : b_law = sSeq (sFor (fRng1 (fC (.int 3))) (.one 2) zBody) zEnd := rfl
end K07

namespace K07
open PySem PySem.Spec FL Cm
variable {s2 s3 s4 s5 s6 s7 s8 s9 s10 s11 s12 s13 s14 s15 : Option S} {n : Nat} {Q : Out → Nat → Prop} {Z : Xn × Sl → Nat → Prop} {U L x y : List Nat} {ps : List Pr} {P M : D}
def al6 : List Nat := [97, 98, 99, 120, 121, 122]
theorem al6_ok : ∀ c ∈ al6, isL c = true := by decide +kernel
theorem z0_wp (hn : n + 10 ≤ 1048576) (k : ∀ L : List Nat, L.Pairwise (· < ·) → (∀ c ∈ L, isL c = true) → L ≠ [] → L.length ≤ 4 → Q (.nx [none, vW, s2, vL L, s4, s5, s6, s7, s8, s9, s10, s11, s12, s13, s14, s15, none, none, none, none, none]) (n + 7)) :
    Wp (z0 [none, vW, s2, s3, s4, s5, s6, s7, s8, s9, s10, s11, s12, s13, s14, s15, none, none, none, none, none]) n Q Z := by
  rw [Wp_eq]
  show T.wp (sSet 3 (pick "abcxyz" 1 4) _) n Q Z
  rw [sSet_def, T.wp_bind, lft_def, T.wp_mapEx]
  refine pick_wp (S := "abcxyz") (al := al6) (m := 4) rfl (by decide) (fun c hc => isL_lt (al6_ok c hc)) (by decide) (by decide) (by decide) rfl (by show n + 6 + 1 ≤ 1048576; omega) fun L h1 h2 h3 h4 => ?_
  exact k L h1 (fun c hc => al6_ok c (h2 c hc)) h3 h4
theorem z1_wp (hL : L.Pairwise (· < ·)) (hs : ∀ c ∈ L, isL c = true) (h0 : L ≠ []) (hl : L.length ≤ 4) (hn : n + 100 ≤ 1048576) (k : ∀ x y ps, Manner L x y ps → Q (.nx [none, vW, s2, vL L, vD (plain x y ps), s5, s6, s7, s8, s9, s10, s11, s12, s13, s14, s15, none, none, none, none, none]) (n + 2 + L.length * L.length + L.length + L.length)) :
    Wp (z1 [none, vW, s2, vL L, s4, s5, s6, s7, s8, s9, s10, s11, s12, s13, s14, s15, none, none, none, none, none]) n Q Z := by
  rw [Wp_eq]
  unfold z1
  simp [T.wp_bind, T.wp_mapEx]
  rw [← Wp_eq]
  refine plain_wp hL hs h0 (by omega) hn fun x y ps h => ?_
  exact k x y ps h
abbrev mn (x y : List Nat) (ps : List Pr) : D := manner 5 x y ps (useful x y ps)
theorem z2_ev (h : Fine U x y ps) (hu : useful x y ps ≠ []) : z2 [none, vW, s2, vL L, vD (plain x y ps), s5, s6, s7, s8, s9, s10, s11, s12, s13, s14, s15, none, none, none, none, none] = .ret (.nx [none, vW, s2, vL L, vD (plain x y ps), vD (mn x y ps), vD (txD [[]]), s7, s8, s9, s10, s11, s12, s13, s14, s15, none, none, none, none, none]) := by
  have e := made_plain (c := 5) (e := 2) h hu
  unfold z2
  simp [e]
  rfl
/-! ### all strings -/
theorem one_more (hl : L.length ≤ 1000) {t : List Nat} (ht : t.length ≤ 1000) : itemsL (.one 18) [none, vW, s2, vL L, s4, s5, s6, s7, s8, s9, s10, s11, s12, vD (.str (tx t)), s14, s15, none, none, none, none, none] fYes (fOne (fOp dAdd (fVar 13) (fVar 18))) (tds (L.map on)) = .ret (tds ((L.map fun a => t ++ [a]).map tx)) := by
  rw [show tds (L.map on) = L.map fun a => D.str (on a) from List.map_map, items_pure (fun a => D.str (on a)) (fun _ => true) (fun a => D.str (tx (t ++ [a]))) _ (fun a ha => ⟨_, rfl, rfl, fun _ => ?_⟩)]
  · rw [List.filter_eq_self.mpr fun _ _ => rfl]
    unfold tds
    rw [List.map_map, List.map_map]
    rfl
  · have e3 : dAdd (.str (tx t)) (.str (on a)) = some (.str (tx (t ++ [a]))) := by
      show (if (tx t).length + (on a).length ≤ 1000000 then some (D.str (tx t ++ on a)) else none) = _
      rw [if_pos (show (tx t).length + (on a).length ≤ 1000000 from (show t.length + 1 ≤ 1000000 by omega)), on_tx, tx_app]
    simp [e3]
theorem wordsN_len (L : List Nat) : ∀ ts : List (List Nat), (wordsN L ts).length = ts.length * L.length
  | [] => by simp [wordsN]
  | t :: ts => by
    have ih := wordsN_len L ts
    have e : wordsN L (t :: ts) = L.map (fun a => t ++ [a]) ++ wordsN L ts := rfl
    rw [e, List.length_append, ih, List.length_map, List.length_cons, Nat.succ_mul, Nat.add_comm]
theorem z3_0_ev (hl : L.length ≤ 4) (h13 : isOwn (some s13) = false) (ts : List (List Nat)) (h0 : ts ≠ []) (ht : ∀ t ∈ ts, t.length ≤ 1000) (hts : ts.length ≤ 1000) :
    z3_0 [none, vW, s2, vL L, s4, s5, vD (txD ts), s7, s8, s9, s10, s11, s12, s13, s14, s15, none, none, none, none, none] = .ret (.nx [none, vW, s2, vL L, s4, s5, vD (txD (wordsN L ts)), s7, s8, s9, s10, s11, s12, s13, s14, s15, none, none, none, none, none]) := by
  have l1 : L.length ≤ 1000000 := by omega
  have outer : itemsL (.one 13) [none, vW, s2, vL L, s4, s5, vD (txD ts), s7, s8, s9, s10, s11, s12, none, s14, s15, none, none, none, none, none] fYes (fOne (fLc (fIt (fVar 3)) (.one 18) [18] fYes (fOp dAdd (fVar 13) (fVar 18)))) (tds (ts.map tx)) = .ret (ts.map fun t => D.list (tds ((L.map fun a => t ++ [a]).map tx))) := by
    rw [show tds (ts.map tx) = ts.map fun t => D.str (tx t) from List.map_map, items_pure (fun t => D.str (tx t)) (fun _ => true) (fun t => D.list (tds ((L.map fun a => t ++ [a]).map tx))) ts (fun t h => ⟨_, rfl, rfl, fun _ => ?_⟩)]
    · rw [List.filter_eq_self.mpr fun _ _ => rfl]
    · have := one_more (L := L) (s2 := s2) (s4 := s4) (s5 := s5) (s6 := vD (txD ts)) (s7 := s7) (s8 := s8) (s9 := s9) (s10 := s10) (s11 := s11) (s12 := s12) (s14 := s14) (s15 := s15) (by omega) (ht t h)
      rw [fLc_def, if_pos (show noOwns _ [18] = true from rfl)]
      simp only [wipeD, List.set_cons_succ, List.set_cons_zero]
      rw [fIt_def, fVar_def]
      simp only [List.getElem?_cons_succ, List.getElem?_cons_zero, T.ret_bind, W.dat_d, itemsOf_l, T.of_some]
      rw [if_pos (by rw [tds_len, List.length_map]; exact l1), this]
      rfl
  have e : (ts.map fun t => tds ((L.map fun a => t ++ [a]).map tx)).flatten = tds ((wordsN L ts).map tx) := by
    unfold wordsN tds
    rw [List.map_map, List.map_flatMap, List.flatMap_def]
    congr 1
    refine List.map_congr_left fun t _ => ?_
    rw [List.map_map]
  have len : (tds ((wordsN L ts).map tx)).length ≤ 1000000 := by
    rw [tds_len, List.length_map, wordsN_len]
    have : ts.length * L.length ≤ 1000 * 4 := Nat.mul_le_mul hts hl
    omega
  have g : gSumL [.list (ts.map fun t => D.list (tds ((L.map fun a => t ++ [a]).map tx))), .list []] = some (txD (wordsN L ts)) := by
    rw [gSumL_l, listsOf_map, Option.bind_some, e, if_pos ⟨fun z => h0 (List.map_eq_nil_iff.mp z), len⟩]
    rfl
  have l2 : ts.length ≤ 1000000 := by omega
  unfold z3_0
  simp only [txD] at outer g ⊢
  rw [sSet_def, fCB_def, fCons_def, fLc_def, if_pos (show noOwns [none, vW, s2, vL L, s4, s5, vD (.list (tds (ts.map tx))), s7, s8, s9, s10, s11, s12, s13, s14, s15, none, none, none, none, none] [13] = true from by unfold noOwns; simp [h13])]
  simp only [wipeD, List.set_cons_succ, List.set_cons_zero]
  rw [fIt_def, fVar_def]
  simp only [List.getElem?_cons_succ, List.getElem?_cons_zero, T.ret_bind, W.dat_d, itemsOf_l, T.of_some]
  rw [if_pos (by rw [tds_len, List.length_map]; exact l2), outer]
  simp [-gSumL_l, -List.map_map, g]
/-- the texts among them -/
def due (x y : List Nat) (ps : List Pr) (ts : List (List Nat)) : D := .tuple (tds ((ts.filter (isT x y ps)).map tx))
theorem z3_1_ev (h13 : isOwn (some s13) = false) (ts : List (List Nat)) (ht : ∀ t ∈ ts, t.length ≤ 1000) (ha : ∀ t ∈ ts, ∀ a ∈ t, a < 128) (hp : ∀ p ∈ ps, p.1 < 128 ∧ p.2 < 128) (hts : ts.length ≤ 100000) :
    z3_1 [none, vW, s2, s3, vD (plain x y ps), s5, vD (txD ts), s7, s8, s9, s10, s11, s12, s13, s14, s15, none, none, none, none, none] = .ret (.nx [none, vW, s2, s3, vD (plain x y ps), s5, vD (txD ts), s7, vD (due x y ps ts), s9, s10, s11, s12, s13, s14, s15, none, none, none, none, none]) := by
  have r : itemsL (.one 13) [none, vW, s2, s3, vD (plain x y ps), s5, vD (txD ts), s7, s8, s9, s10, s11, s12, none, s14, s15, none, none, none, none, none] (fVal (fCall f_is_text (fCons (fVar 4) (fCons (fVar 13) fNil)))) (fOne (fVar 13)) (tds (ts.map tx)) = .ret (tds ((ts.filter (isT x y ps)).map tx)) := by
    rw [show tds (ts.map tx) = ts.map fun t => D.str (tx t) from List.map_map, items_pure (fun t => D.str (tx t)) (isT x y ps) (fun t => D.str (tx t)) ts (fun t h => ⟨_, rfl, ?_, fun _ => by simp⟩)]
    · unfold tds
      rw [List.map_map]
      rfl
    · have e := is_ev (x := x) (y := y) (ps := ps) (t := t) (by have := ht t h; omega) (ha t h) hp
      simp [e]
  have l2 : ts.length ≤ 1000000 := by omega
  unfold z3_1
  simp only [txD] at r ⊢
  rw [sSet_def, fCB_def, fCons_def, fLc_def, if_pos (show noOwns [none, vW, s2, s3, vD (plain x y ps), s5, vD (.list (tds (ts.map tx))), s7, s8, s9, s10, s11, s12, s13, s14, s15, none, none, none, none, none] [13] = true from by unfold noOwns; simp [h13])]
  simp only [wipeD, List.set_cons_succ, List.set_cons_zero]
  rw [fIt_def, fVar_def]
  simp only [List.getElem?_cons_succ, List.getElem?_cons_zero, T.ret_bind, W.dat_d, itemsOf_l, T.of_some]
  rw [if_pos (by rw [tds_len, List.length_map]; exact l2), r]
  simp [due]
end K07

namespace K07
open PySem PySem.Spec FL Cm
variable {s2 s3 s4 s5 s6 s7 s8 s9 s10 s11 s12 s13 s14 s15 : Option S} {n : Nat} {Q : Out → Nat → Prop} {Z : Xn × Sl → Nat → Prop} {U L x y : List Nat} {ps : List Pr} {P M : D}
theorem due_eq (ts : List (List Nat)) : K07.due x y ps ts = Cm.due x y ps ts := rfl
theorem seq_rep2 (d : D) : gRepr [.list [d, d]] = if isSeq (.list [d, d]) = true ∧ okR (.list [d, d]) = true then some (.str (D.list [d, d]).py.shown) else none := rfl
theorem rep_due (ts : List (List Nat)) (h : ∀ t ∈ ts, t.length ≤ 4 ∧ ∀ a ∈ t, a < 128) (hl : ts.length ≤ 1024) : ∃ s : Str, gRepr [.list [Cm.due x y ps ts, Cm.due x y ps ts]] = some (.str s) := by
  have ok : okR (.list [Cm.due x y ps ts, Cm.due x y ps ts]) = true := by
    refine okR_of ?_ ?_ ?_
    · show (D.inBL (tds ((ts.filter (isT x y ps)).map tx)) && (D.inBL (tds ((ts.filter (isT x y ps)).map tx)) && true)) = true
      rw [inB_tds]
      rfl
    · show max (PyData.depthAll (D.pyL (tds ((ts.filter (isT x y ps)).map tx))) + 1) (max (PyData.depthAll (D.pyL (tds ((ts.filter (isT x y ps)).map tx))) + 1) 0) + 1 ≤ 60
      rw [depth_tds]
      decide
    · have e := swL_tx 4 (ts.filter (isT x y ps)) fun t ht => h t (List.mem_filter.mp ht).1
      have l := List.length_filter_le (isT x y ps) ts
      have : (10 * 4 + 4) * (ts.filter (isT x y ps)).length ≤ 44 * 1024 := Nat.mul_le_mul (by decide) (by omega)
      show ((D.swL (tds ((ts.filter (isT x y ps)).map tx)) + 4) + 2 + ((D.swL (tds ((ts.filter (isT x y ps)).map tx)) + 4) + 2 + 0)) + 4 ≤ 1000000
      omega
  exact ⟨_, by rw [seq_rep2, if_pos ⟨rfl, ok⟩]⟩
theorem z3_2_ev (R : Round L x y ps) (hl : L.length ≤ 4) {k : Nat} (h1 : 1 ≤ k) (h2 : k ≤ 4) : z3_2 [none, vW, s2, s3, s4, vD (mn x y ps), s6, vD (.int (k : Nat)), vD (Cm.due x y ps (WK L k)), s9, s10, s11, s12, s13, s14, s15, none, none, none, none, none] = .ret (.nx [none, vW, s2, s3, s4, vD (mn x y ps), s6, vD (.int (k : Nat)), vD (Cm.due x y ps (WK L k)), s9, s10, s11, s12, s13, s14, s15, none, none, none, none, none]) := by
  have e := texts_all (c := 5) (bn := 3) (tm := 4) R hl h1 h2
  obtain ⟨s, g⟩ := rep_due (x := x) (y := y) (ps := ps) (WK L k) (fun t ht => ⟨by rw [(WK_mem L k t ht).1]; exact h2, fun a ha => isL_lt (R.ls a ((WK_mem L k t ht).2 a ha))⟩) (by rw [WK_len]; exact pow4 hl (by omega))
  generalize Cm.due x y ps (WK L k) = d at e g
  have l1 : (manner 5 x y ps (useful x y ps)) = .obj 5 (fields x y ps (useful x y ps)) := rfl
  have l2 : (fields x y ps (useful x y ps)).lookup ("texts" : Str) = none := rfl
  rw [l1] at e
  unfold z3_2
  simp [mn, l1, l2, planW, Pl.w, e, g]
theorem z3_3_ev (h : Fine U x y ps) (h13 : isOwn (some s13) = false) (ts : List (List Nat)) (ht : ∀ t ∈ ts, t.length ≤ 1000) (ha : ∀ t ∈ ts, ∀ a ∈ t, a < 128) (hts : ts.length ≤ 100000) :
    z3_3 [none, vW, s2, s3, s4, vD (mn x y ps), vD (txD ts), s7, vD (Cm.due x y ps ts), s9, s10, s11, s12, s13, s14, s15, none, none, none, none, none] = .ret (.nx [none, vW, s2, s3, s4, vD (mn x y ps), vD (txD ts), s7, vD (Cm.due x y ps ts), s9, s10, s11, s12, s13, s14, s15, none, none, none, none, none]) := by
  have l1 : (manner 5 x y ps (useful x y ps)) = .obj 5 (fields x y ps (useful x y ps)) := rfl
  have l2 : (fields x y ps (useful x y ps)).lookup ("has" : Str) = none := rfl
  have okt : ∀ t, (∀ a ∈ t, a < 128) → PyData.strOk (tx t) = true := fun t h => by
    show (t.toArray.all (· < 0x110000)) = true
    simp
    exact fun a ha => Nat.lt_trans (h a ha) (by decide)
  have r : itemsL (.one 13) [none, vW, s2, s3, s4, vD (mn x y ps), vD (txD ts), s7, vD (Cm.due x y ps ts), s9, s10, s11, s12, none, s14, s15, none, none, none, none, none] (fVal (fOp dNe (fMethI [5] "has" 1 0 [.arg 0, .arg 1] (Cm.f_Manner_has 5) (fVar 5) (fCons (fVar 13) fNil) fNil) (fOp dIn2 (fVar 13) (fVar 8)))) (fOne (fVar 13)) (tds (ts.map tx)) = .ret ((ts.filter fun _ => false).map fun t => D.str (tx t)) := by
    rw [show tds (ts.map tx) = ts.map fun t => D.str (tx t) from List.map_map, items_pure (fun t => D.str (tx t)) (fun _ => false) (fun t => D.str (tx t)) ts (fun t m => ⟨_, rfl, ?_, fun z => by cases z⟩)]
    have e1 := has_all (c := 5) h (t := t) (by have := ht t m; omega) (ha t m)
    rw [l1] at e1
    have e2 : dIn2 (.str (tx t)) (Cm.due x y ps ts) = some (.bool (isT x y ps t)) := by
      show dIn2 (.str (tx t)) (.tuple _) = _
      rw [dIn2_t, dIn_tpl (by
        show (PyData.strOk (tx t) && okT _) = true
        rw [okt t (ha t m)]
        refine List.all_eq_true.mpr fun s hs => ?_
        obtain ⟨u, hu, rfl⟩ := List.mem_map.mp hs
        exact okt u (ha u (List.mem_filter.mp hu).1))]
      congr 2
      rw [Bool.eq_iff_iff, decide_eq_true_eq]
      constructor
      · intro hm
        obtain ⟨u, hu, e⟩ := List.mem_map.mp hm
        rw [← tx_inj.mp e]
        exact (List.mem_filter.mp hu).2
      · exact fun q => List.mem_map.mpr ⟨t, List.mem_filter.mpr ⟨m, q⟩, rfl⟩
    generalize Cm.due x y ps ts = d at e2
    have e3 : eqv (.bool (isT x y ps t)) (.bool (isT x y ps t)) = true := by cases isT x y ps t <;> rfl
    simp [mn, l1, l2, planW, Pl.w, e1, e2, e3]
  rw [show (ts.filter fun _ => false) = [] by simp, List.map_nil] at r
  have l3 : ts.length ≤ 1000000 := by omega
  unfold z3_3
  simp only [txD] at r ⊢
  rw [sIf_def, fVal_def, fOp_def, fLc_def, if_pos (show noOwns [none, vW, s2, s3, s4, vD (mn x y ps), vD (.list (tds (ts.map tx))), s7, vD (Cm.due x y ps ts), s9, s10, s11, s12, s13, s14, s15, none, none, none, none, none] [13] = true from by unfold noOwns; simp [h13])]
  simp only [wipeD, List.set_cons_succ, List.set_cons_zero]
  rw [fIt_def, fVar_def]
  simp only [List.getElem?_cons_succ, List.getElem?_cons_zero, T.ret_bind, W.dat_d, itemsOf_l, T.of_some]
  rw [if_pos (by rw [tds_len, List.length_map]; exact l3), r]
  simp
/-- one number of letters -/
theorem z3_turn (R : Round L x y ps) (h0 : L ≠ []) (hl : L.length ≤ 4) (h13 : isOwn (some s13) = false) {k : Nat} (h2 : k < 4) : z3b [none, vW, s2, vL L, vD (plain x y ps), vD (mn x y ps), vD (txD (WK L k)), vD (.int ((k + 1 : Nat) : Int)), s8, s9, s10, s11, s12, s13, s14, s15, none, none, none, none, none] =
    .ret (.nx [none, vW, s2, vL L, vD (plain x y ps), vD (mn x y ps), vD (txD (WK L (k + 1))), vD (.int ((k + 1 : Nat) : Int)), vD (Cm.due x y ps (WK L (k + 1))), s9, s10, s11, s12, s13, s14, s15, none, none, none, none, none]) := by
  have h := R.fine
  have lt : ∀ j, ∀ t ∈ WK L j, ∀ a ∈ t, a < 128 := fun j t ht a ha => isL_lt (R.ls a ((WK_mem L j t ht).2 a ha))
  have lw : ∀ j, j ≤ 4 → (WK L j).length ≤ 1024 := fun j hj => by rw [WK_len]; exact pow4 hl (by omega)
  have len : ∀ j, j ≤ 4 → ∀ t ∈ WK L j, t.length ≤ 1000 := fun j hj t ht => by rw [(WK_mem L j t ht).1]; omega
  unfold z3b
  have hp : ∀ p ∈ ps, p.1 < 128 ∧ p.2 < 128 := fun p hp => ⟨h.ua _ (h.p1 p hp), h.ua _ (h.p2 p hp)⟩
  have e0 := z3_0_ev (s2 := s2) (s4 := vD (plain x y ps)) (s5 := vD (mn x y ps)) (s7 := vD (.int ((k + 1 : Nat) : Int))) (s8 := s8) (s9 := s9) (s10 := s10) (s11 := s11) (s12 := s12) (s13 := s13) (s14 := s14) (s15 := s15) hl h13 (WK L k) (WK_ne L h0 k) (len k (by omega)) (by rw [WK_len]; exact Nat.le_trans (Nat.pow_le_pow_left hl k) (Nat.le_trans (Nat.pow_le_pow_right (by decide) (show k ≤ 3 by omega)) (by decide)))
  rw [← WK_succ] at e0
  rw [seq_eq e0, seq_eq (z3_1_ev h13 (WK L (k + 1)) (len _ (by omega)) (lt _) hp (by have := lw (k + 1) (by omega); omega)), due_eq, seq_eq (z3_2_ev R hl (by omega) (by omega))]
  exact z3_3_ev h h13 (WK L (k + 1)) (len _ (by omega)) (lt _) (by have := lw (k + 1) (by omega); omega)
theorem loop_one {tg : Tg} {b : FS} {x : D} {xs : List D} {δ δ1 δ2 : Sl} (h1 : putT tg δ x = some δ1) (h2 : b δ1 = .ret (.nx δ2)) : loopL tg b (x :: xs) δ = loopL tg b xs δ2 := by
  rw [loopL_cons, h1, T.of_some, T.ret_bind, h2, T.ret_bind, oLoop_nx]
theorem z3_ev (R : Round L x y ps) (h0 : L ≠ []) (hl : L.length ≤ 4) (h13 : isOwn (some s13) = false) : z3 [none, vW, s2, vL L, vD (plain x y ps), vD (mn x y ps), vD (txD [[]]), s7, s8, s9, s10, s11, s12, s13, s14, s15, none, none, none, none, none] =
    .ret (.nx [none, vW, s2, vL L, vD (plain x y ps), vD (mn x y ps), vD (txD (WK L 4)), vD (.int 4), vD (Cm.due x y ps (WK L 4)), s9, s10, s11, s12, s13, s14, s15, none, none, none, none, none]) := by
  have src : (fRng2 (fC (.int 1)) (fC (.int 5))) [none, vW, s2, vL L, vD (plain x y ps), vD (mn x y ps), vD (txD [[]]), s7, s8, s9, s10, s11, s12, s13, s14, s15, none, none, none, none, none] = .ret [.int ((0 + 1 : Nat) : Int), .int ((1 + 1 : Nat) : Int), .int ((2 + 1 : Nat) : Int), .int ((3 + 1 : Nat) : Int)] := by
    simp
    rfl
  unfold z3
  rw [sFor_def, src, lft_def, T.mapEx_ret, T.ret_bind]
  rw [loop_one rfl (z3_turn (k := 0) R h0 hl h13 (by decide)), loop_one rfl (z3_turn (k := 1) R h0 hl h13 (by decide)), loop_one rfl (z3_turn (k := 2) R h0 hl h13 (by decide)), loop_one rfl (z3_turn (k := 3) R h0 hl h13 (by decide)), loopL_nil]
  rfl
end K07

namespace K07
open PySem PySem.Spec FL Cm
variable {s2 s3 s4 s5 s6 s7 s8 s9 s10 s11 s12 s13 s14 s15 : Option S} {n : Nat} {Q : Out → Nat → Prop} {Z : Xn × Sl → Nat → Prop} {U L x y t : List Nat} {ps : List Pr} {P M : D}
theorem tds_one {d : D} {L : List Nat} (h : d ∈ tds (L.map on)) : ∃ a ∈ L, d = .str (on a) := tds_on h
/-- a row of drawn letters -/
theorem ones_rows {δ : Sl} (h1 : δ[(1 : Nat)]? = some vW) (h3 : δ[(3 : Nat)]? = some (vL L)) (h19 : 19 < δ.length) (h0 : L ≠ []) (hl : L.length ≤ 1000) {Q : List D → Nat → Prop} {Z : Xn → Nat → Prop} : ∀ (xs : List D) (n : Nat), n + xs.length ≤ 1048576 → (∀ t : List Nat, t.length = xs.length → (∀ a ∈ t, a ∈ L) → Q (tds (t.map on)) (n + xs.length)) →
    (itemsL (.one 19) δ fYes (fOne (fCall f_one (fCons (fVar 1) (fCons (fVar 3) fNil)))) xs).wp n Q Z
  | [], n, _, k => k [] rfl fun a h => by cases h
  | x :: xs, n, hn, k => by
    rw [List.length_cons] at hn
    have e1 : (δ.set 19 (some (S.v (.d x))))[(1 : Nat)]? = some vW := by rw [List.getElem?_set_ne (by decide)]; exact h1
    have e3 : (δ.set 19 (some (S.v (.d x))))[(3 : Nat)]? = some (vL L) := by rw [List.getElem?_set_ne (by decide)]; exact h3
    show T.wp ((T.of (putT (.one 19) _ x)).bind _) n Q Z
    rw [putT_one, T.of_some, T.ret_bind]
    have el : n + 1 + xs.length = n + (xs.length + 1) := by omega
    simp [T.wp_bind, e1, e3]
    refine one_wp (xs := tds (L.map on)) (by rw [tds_len, List.length_map]; exact List.length_pos_iff.mpr h0) (by rw [tds_len, List.length_map]; omega) (by omega) fun d hd => ?_
    obtain ⟨a, ha, rfl⟩ := tds_on hd
    refine ones_rows h1 h3 h19 h0 hl xs (n + 1) (by omega) fun t ht hm => ?_
    rw [el]
    exact k (a :: t) (by rw [List.length_cons, List.length_cons, ht]) fun b hb => (List.mem_cons.mp hb).elim (fun z => z ▸ ha) (hm b)
theorem z4_wp (h0 : L ≠ []) (hl : L.length ≤ 4) (hn : n + 100 ≤ 1048576) (k : ∀ (t : List Nat) (n' : Nat), t.length ≤ 60 → (∀ a ∈ t, a ∈ L) → n' ≤ n + 61 → Q (.nx [none, vW, s2, vL L, s4, s5, s6, s7, s8, vD (.str (tx t)), s10, s11, s12, s13, s14, s15, none, none, none, none, none]) n') :
    Wp (z4 [none, vW, s2, vL L, s4, s5, s6, s7, s8, s9, s10, s11, s12, s13, s14, s15, none, none, none, none, none]) n Q Z := by
  rw [Wp_eq]
  unfold z4
  rw [sSet_def, T.wp_bind, lft_def, T.wp_mapEx, fJoin_def, fC_def, T.ret_bind, W.dat_d, T.ret_bind, strO_s, T.of_some, T.ret_bind, T.wp_bind, fLc_def, if_pos (show noOwns [none, vW, s2, vL L, s4, s5, s6, s7, s8, s9, s10, s11, s12, s13, s14, s15, none, none, none, none, none] [19] = true from rfl), T.wp_bind, fRng1_def]
  simp only [fCall_def, fCons_def, fVar_def, fC_def, fNil_def, List.getElem?_cons_succ, List.getElem?_cons_zero, T.ret_bind, List.all_cons, List.all_nil, arg_wl, arg_d, Bool.and_self, if_true, gDraw_def, T.bind_draw, W.rd_d, rng1_def]
  refine draw_wp (by decide) (by decide) (by omega) fun v v0 v1 => ?_
  obtain ⟨j, rfl⟩ : ∃ j : Nat, v = (j : Int) := ⟨v.toNat, by omega⟩
  rw [if_pos ⟨by omega, by omega⟩, T.wp_ret, Int.toNat_natCast]
  have ln : (nums 0 j).length = j := by unfold nums; rw [List.length_map, List.length_range]
  rw [if_pos (by rw [ln]; omega), T.wp_bind, T.wp_noex]
  simp only [wipeD, List.set_cons_succ, List.set_cons_zero]
  refine ones_rows (L := L) rfl rfl (Nat.lt_of_sub_eq_succ rfl) h0 (by omega) _ (n + 1) (by rw [ln]; omega) fun t ht hm => ?_
  rw [ln] at ht
  rw [T.wp_ret, T.wp_bind, W.rd_d, T.wp_ret, join_ev (by omega), T.of_some, T.ret_bind, T.wp_ret, T.wp_bind, lft_def, W.dat_d, T.mapEx_ret, T.wp_ret, T.wp_ret]
  exact k t _ (by omega) hm (by rw [ln]; omega)
theorem z5_wp (hx : x ≠ []) (hl : x.length ≤ 100) (hn : n + 1 ≤ 1048576) (k : ∀ a ∈ x, Q (.nx [none, vW, s2, s3, vD (plain x y ps), s5, s6, s7, s8, s9, vD (.str (tx [a])), s11, s12, s13, s14, s15, none, none, none, none, none]) (n + 1)) :
    Wp (z5 [none, vW, s2, s3, vD (plain x y ps), s5, s6, s7, s8, s9, s10, s11, s12, s13, s14, s15, none, none, none, none, none]) n Q Z := by
  rw [Wp_eq]
  have e1 := pl1 (x := x) (y := y) (ps := ps)
  have e2 : gList2 [.str (tx x)] = some (.list (tds (x.map on))) := by
    rw [gList2_s, if_pos (show (tx x).length ≤ 1000000 from (show x.length ≤ 1000000 by omega)), signs_tds]
    rfl
  generalize plain x y ps = P at e1 k
  unfold z5
  simp [-gList2_s, -dIx2_d, T.wp_bind, T.wp_mapEx, e1, e2]
  refine one_wp (xs := tds (x.map on)) (by rw [tds_len, List.length_map]; exact List.length_pos_iff.mpr hx) (by rw [tds_len, List.length_map]; omega) (by omega) fun d hd => ?_
  obtain ⟨a, ha, rfl⟩ := tds_on hd
  exact k a ha
/-! ### a walk -/
theorem z6_0_ev (ht : t ≠ []) (hl : t.length ≤ 1000) (hp : ps.length ≤ 1000) : z6_0 [none, vW, s2, s3, vD (plain x y ps), s5, s6, s7, s8, s9, vD (.str (tx t)), s11, s12, s13, s14, s15, none, none, none, none, none] =
    .ret (.nx [none, vW, s2, s3, vD (plain x y ps), s5, s6, s7, s8, s9, vD (.str (tx t)), s11, vL (nextTo ps (t.getLastD 0)), s13, s14, s15, none, none, none, none, none]) := by
  have e1 := pl2 (x := x) (y := y) (ps := ps)
  have e2 := last_ev ht (by omega)
  generalize plain x y ps = P at e1
  have r : itemsL (.one 20) [none, vW, s2, s3, vD P, s5, s6, s7, s8, s9, vD (.str (tx t)), s11, s12, s13, s14, s15, none, none, none, none, none] (fVal (fOp dEq (fOp dIx (fVar 20) (fC (.int 0))) (fOp dIx (fVar 10) (fNeg (fC (.int 1)))))) (fOne (fOp dIx (fVar 20) (fC (.int 1)))) (psD ps) = .ret (tds ((nextTo ps (t.getLastD 0)).map on)) := by
    rw [psD_map, items_pure (fun p => D.str (pt p)) (fun p => decide (p.1 = t.getLastD 0)) (fun p => D.str (on p.2)) ps (fun p hp => ?_)]
    · unfold nextTo tds
      rw [List.map_map, List.map_map]
      rfl
    · refine ⟨_, rfl, ?_, fun _ => ?_⟩
      · by_cases hp1 : p.1 = t.getLastD 0
        · simp [-dIx_s, -List.getLastD_eq_getLast?, e2, hp1, on_inj]
        · simp [-dIx_s, -List.getLastD_eq_getLast?, e2, hp1, on_inj]
      · simp
  have l1 : ps.length ≤ 1000000 := by omega
  unfold z6_0
  simp [-dIx_s, -dIx2_d, -List.getLastD_eq_getLast?, noOwns, isOwn, wipeD, e1, l1, r]
theorem z6_1_wp {N : List Nat} (hN : ∀ a ∈ N, a < 128) (hNl : N.length ≤ 1000) (hl : t.length ≤ 1000) (hn : n + 1 ≤ 1048576) (k : ∀ (u : List Nat) (n' : Nat), (u = [] ∨ ∃ a ∈ N, u = [a]) → n' ≤ n + 1 → Q (.nx [none, vW, s2, s3, s4, s5, s6, s7, s8, s9, vD (.str (tx (t ++ u))), s11, vL N, s13, s14, s15, none, none, none, none, none]) n') :
    Wp (z6_1 [none, vW, s2, s3, s4, s5, s6, s7, s8, s9, vD (.str (tx t)), s11, vL N, s13, s14, s15, none, none, none, none, none]) n Q Z := by
  rw [Wp_eq]
  have ad : ∀ u : List Nat, u.length ≤ 1 → dAdd (.str (tx t)) (.str (tx u)) = some (.str (tx (t ++ u))) := fun u hu => by
    show (if (tx t).length + (tx u).length ≤ 1000000 then some (D.str (tx t ++ tx u)) else none) = _
    rw [if_pos (show (tx t).length + (tx u).length ≤ 1000000 from (show t.length + u.length ≤ 1000000 by omega)), tx_app]
  have o := okEq_lst (N.map on)
  rw [okT_on hN] at o
  unfold z6_1
  by_cases h : N = []
  · subst h
    have e1 := ad [] (by decide)
    have e2 : (tx [] : Str) = ("" : Str) := rfl
    rw [e2, List.append_nil] at e1
    have := k [] n (.inl rfl) (by omega)
    rw [List.append_nil] at this
    simp [tds_nil, e1]
    exact this
  · have e3 := eqv_nil (tds (N.map on))
    have e4 : (tds (N.map on)).isEmpty = false := by
      cases N with
      | nil => exact absurd rfl h
      | cons a N => rfl
    rw [e4] at e3
    simp [-eqv_list, T.wp_bind, T.wp_mapEx, o, e3]
    refine one_wp (xs := tds (N.map on)) (by rw [tds_len, List.length_map]; exact List.length_pos_iff.mpr h) (by rw [tds_len, List.length_map]; omega) (by omega) fun d hd => ?_
    obtain ⟨a, ha, rfl⟩ := tds_on hd
    have e1 := ad [a] (Nat.le_refl 1)
    rw [← on_tx] at e1
    rw [e1]
    simp
    exact k [a] (n + 1) (.inr ⟨a, ha, rfl⟩) (by omega)
end K07

namespace K07
open PySem PySem.Spec FL Cm
variable {s2 s3 s4 s5 s6 s7 s8 s9 s10 s11 s12 s13 s14 s15 : Option S} {n : Nat} {Q : Out → Nat → Prop} {Z : Xn × Sl → Nat → Prop} {U L x y t : List Nat} {ps : List Pr} {P M : D}
theorem of_hp {ε α : Type} {t : T ε α} {n : Nat} {Q : α → Nat → Prop} {Z : ε → Nat → Prop} (h : Wp t n Q Z) : t.wp n Q Z := by
  rw [Wp_eq] at h
  exact h
abbrev oD (o : Option D) : Option S := o.map fun d => S.v (.d d)
theorem nextTo_mem {q : List Pr} {a b : Nat} (h : b ∈ nextTo q a) : ∃ p ∈ q, p.2 = b := by
  obtain ⟨p, hp, rfl⟩ := List.mem_map.mp h
  exact ⟨p, (List.mem_filter.mp hp).1, rfl⟩
theorem nextTo_len (q : List Pr) (a : Nat) : (nextTo q a).length ≤ q.length := by
  unfold nextTo
  rw [List.length_map]
  exact List.length_filter_le ..
/-- a walk of up to so many steps -/
def Walk (L x y : List Nat) (ps : List Pr) (s2 s3 s5 s6 s7 s8 s9 s13 s14 s15 : Option S) (j : Nat) (δ : Sl) : Prop := ∃ (t : List Nat) (o11 o12 : Option D), t ≠ [] ∧ t.length ≤ 1 + j ∧ (∀ a ∈ t, a ∈ L) ∧ δ = [none, vW, s2, s3, vD (plain x y ps), s5, s6, s7, s8, s9, vD (.str (tx t)), oD o11, oD o12, s13, s14, s15, none, none, none, none, none]
theorem z6_wp {o11 o12 : Option D} {a : Nat} (h : Fine L x y ps) (ha : a ∈ x) (hn : n + 200 ≤ 1048576) (k : ∀ (t : List Nat) (o11 o12 : Option D) (n' : Nat), t ≠ [] → t.length ≤ 100 → (∀ a ∈ t, a ∈ L) → n' ≤ n + 81 → Q (.nx [none, vW, s2, s3, vD (plain x y ps), s5, s6, s7, s8, s9, vD (.str (tx t)), oD o11, oD o12, s13, s14, s15, none, none, none, none, none]) n') :
    Wp (z6 [none, vW, s2, s3, vD (plain x y ps), s5, s6, s7, s8, s9, vD (.str (tx [a])), oD o11, oD o12, s13, s14, s15, none, none, none, none, none]) n Q Z := by
  rw [Wp_eq]
  unfold z6
  rw [sFor_def, T.wp_bind, lft_def, T.wp_mapEx, fRng1_def]
  simp only [fCall_def, fCons_def, fVar_def, fC_def, fNil_def, List.getElem?_cons_succ, List.getElem?_cons_zero, T.ret_bind, List.all_cons, List.all_nil, arg_wl, arg_d, Bool.and_self, if_true, gDraw_def, T.bind_draw, W.rd_d, rng1_def]
  refine draw_wp (by decide) (by decide) (by omega) fun v v0 v1 => ?_
  obtain ⟨j, rfl⟩ : ∃ j : Nat, v = (j : Int) := ⟨v.toNat, by omega⟩
  rw [if_pos ⟨by omega, by omega⟩, T.wp_ret, Int.toNat_natCast]
  have ln : (nums 0 j).length = j := by unfold nums; rw [List.length_map, List.length_range]
  refine loop_wp j (fun i n' δ => n' ≤ n + 1 + i ∧ Walk L x y ps s2 s3 s5 s6 s7 s8 s9 s13 s14 s15 i δ) (fun i n' δ d hi ⟨h1, h2⟩ => ?_) (nums 0 j) 0 (n + 1) _ (by rw [ln]; omega) ⟨Nat.le_refl _, [a], o11, o12, List.cons_ne_nil _ _, Nat.le_refl _, fun b hb => by rw [List.mem_singleton.mp hb]; exact h.fx.sub a ha, rfl⟩ (fun n' δ' ⟨h1, h2⟩ => ?_)
  · obtain ⟨t, p11, p12, t1, t2, t3, rfl⟩ := h2
    refine ⟨_, rfl, of_hp ?_⟩
    have hps := h.pl
    have e := z6_0_ev (s2 := s2) (s3 := s3) (s5 := s5) (s6 := s6) (s7 := s7) (s8 := s8) (s9 := s9) (s11 := vD d) (s12 := oD p12) (s13 := s13) (s14 := s14) (s15 := s15) (x := x) (y := y) (ps := ps) t1 (by omega) (by omega)
    unfold z6b
    rw [show ([none, vW, s2, s3, vD (Cm.plain x y ps), s5, s6, s7, s8, s9, vD (D.str (tx t)), oD p11, oD p12, s13, s14, s15, none, none, none, none, none].set 11 (some (S.v (W.d d)))) = [none, vW, s2, s3, vD (Cm.plain x y ps), s5, s6, s7, s8, s9, vD (D.str (tx t)), vD d, oD p12, s13, s14, s15, none, none, none, none, none] from rfl, hp_ret e]
    have nl := nextTo_len ps (t.getLastD 0)
    refine z6_1_wp (fun b hb => ?_) (by omega) (by omega) (by omega) fun u n2 hu hn2 => ?_
    · obtain ⟨p, hp, rfl⟩ := nextTo_mem hb
      exact h.ua _ (h.p2 p hp)
    · refine ⟨_, rfl, by omega, t ++ u, some d, some (.list (tds ((nextTo ps (t.getLastD 0)).map on))), by simp [t1], ?_, fun b hb => ?_, rfl⟩
      · rw [List.length_append]
        rcases hu with rfl | ⟨b, _, rfl⟩
        · simp; omega
        · simp; omega
      · rcases List.mem_append.mp hb with hb | hb
        · exact t3 b hb
        · rcases hu with rfl | ⟨b', hb', rfl⟩
          · cases hb
          · rw [List.mem_singleton.mp hb]
            obtain ⟨p, hp, rfl⟩ := nextTo_mem hb'
            exact h.p2 p hp
  · obtain ⟨t, p11, p12, t1, t2, t3, rfl⟩ := h2
    exact k t p11 p12 n' t1 (by omega) t3 (by omega)
/-! ### has of four strings -/
theorem rep_bb (b : Bool) : ∃ s : Str, gRepr [.list [.bool b, .bool b]] = some (.str s) := by
  have ok : okR (.list [.bool b, .bool b]) = true := by
    refine okR_of rfl ?_ ?_
    · show max 0 (max 0 0) + 1 ≤ 60
      decide
    · show (5 + 2 + (5 + 2 + 0)) + 4 ≤ 1000000
      decide
  exact ⟨_, by rw [seq_rep2, if_pos ⟨rfl, ok⟩]⟩
theorem z7_0_ev (h : Fine U x y ps) {t : List Nat} (hl : t.length ≤ 1000) (ha : ∀ a ∈ t, a < 128) : z7b [none, vW, s2, s3, vD (plain x y ps), vD (mn x y ps), s6, s7, s8, s9, s10, s11, s12, vD (.str (tx t)), s14, s15, none, none, none, none, none] =
    .ret (.nx [none, vW, s2, s3, vD (plain x y ps), vD (mn x y ps), s6, s7, s8, s9, s10, s11, s12, vD (.str (tx t)), s14, s15, none, none, none, none, none]) := by
  have hp : ∀ p ∈ ps, p.1 < 128 ∧ p.2 < 128 := fun p hp => ⟨h.ua _ (h.p1 p hp), h.ua _ (h.p2 p hp)⟩
  have e1 := has_all (c := 5) h (t := t) (by omega) ha
  have e2 := is_ev (x := x) (y := y) (ps := ps) (t := t) (by omega) ha hp
  have l1 : (manner 5 x y ps (useful x y ps)) = .obj 5 (fields x y ps (useful x y ps)) := rfl
  have l2 : (fields x y ps (useful x y ps)).lookup ("has" : Str) = none := rfl
  obtain ⟨s, g⟩ := rep_bb (isT x y ps t)
  rw [l1] at e1
  generalize plain x y ps = P at e2
  unfold z7b
  unfold z7_0
  simp [mn, l1, l2, planW, Pl.w, e1, e2, g]
theorem z7_ev (h : Fine U x y ps) {l t : List Nat} (hl : l.length ≤ 100) (ha : ∀ a ∈ l, a < 128) (ht : t.length ≤ 100) (hb : ∀ a ∈ t, a < 128) : z7 [none, vW, s2, s3, vD (plain x y ps), vD (mn x y ps), s6, s7, s8, vD (.str (tx l)), vD (.str (tx t)), s11, s12, s13, s14, s15, none, none, none, none, none] =
    .ret (.nx [none, vW, s2, s3, vD (plain x y ps), vD (mn x y ps), s6, s7, s8, vD (.str (tx l)), vD (.str (tx t)), s11, s12, vD (.str (tx t.tail)), s14, s15, none, none, none, none, none]) := by
  have e1 : dAdd (.str (tx t)) (.str "w") = some (.str (tx (t ++ [119]))) := by
    show (if (tx t).length + ("w" : Str).length ≤ 1000000 then some (D.str (tx t ++ "w")) else none) = _
    rw [if_pos (show (tx t).length + ("w" : Str).length ≤ 1000000 from (show t.length + 1 ≤ 1000000 by omega)), show ("w" : Str) = tx [119] from rfl, tx_app]
  have e2 : dCut (.str (tx t)) (some 1) none = some (.str (tx t.tail)) := by
    show (if (tx t).length ≤ 1000000 then some (D.str (L2.cutS (tx t) (some 1) none)) else none) = _
    rw [if_pos (show (tx t).length ≤ 1000000 from (show t.length ≤ 1000000 by omega)), cutS_1]
  have src : (fIt (fSeq .tuple (fCons (fVar 9) (fCons (fVar 10) (fCons (fOp dAdd (fVar 10) (fC (.str "w"))) (fCons (fSlice (fVar 10) (oPart (fC (.int 1))) oNo) fNil)))))) [none, vW, s2, s3, vD (plain x y ps), vD (mn x y ps), s6, s7, s8, vD (.str (tx l)), vD (.str (tx t)), s11, s12, s13, s14, s15, none, none, none, none, none] = .ret [.str (tx l), .str (tx t), .str (tx (t ++ [119])), .str (tx t.tail)] := by
    simp [-dCut_s, e1, e2]
  unfold z7
  rw [sFor_def, src, lft_def, T.mapEx_ret, T.ret_bind]
  rw [loop_one rfl (z7_0_ev h (t := l) (by omega) ha), loop_one rfl (z7_0_ev h (t := t) (by omega) hb), loop_one rfl (z7_0_ev h (t := t ++ [119]) (by rw [List.length_append]; simp; omega) (fun a m => by
    rcases List.mem_append.mp m with m | m
    · exact hb a m
    · rw [List.mem_singleton.mp m]; decide)), loop_one rfl (z7_0_ev h (t := t.tail) (by rw [List.length_tail]; omega) (fun a m => hb a (List.mem_of_mem_tail m))), loopL_nil]
/-! ### what is none -/
def Odd (d : D) : Prop := d = .none ∨ d = .int 5 ∨ (∃ xs, d = .list xs) ∨ d = .tuple [.str "a"] ∨ d = .bool true ∨ d = .dict []
theorem z8_wp (hl : t.length ≤ 1000) (hn : n + 1 ≤ 1048576) (k : ∀ d, Odd d → Q (.nx [none, vW, s2, s3, s4, s5, s6, s7, s8, s9, vD (.str (tx t)), s11, s12, s13, vD d, s15, none, none, none, none, none]) (n + 1)) :
    Wp (z8 [none, vW, s2, s3, s4, s5, s6, s7, s8, s9, vD (.str (tx t)), s11, s12, s13, s14, s15, none, none, none, none, none]) n Q Z := by
  rw [Wp_eq]
  have e2 : gList2 [.str (tx t)] = some (.list (tds (t.map on))) := by
    rw [gList2_s, if_pos (show (tx t).length ≤ 1000000 from (show t.length ≤ 1000000 by omega)), signs_tds]
    rfl
  unfold z8
  simp [-gList2_s, T.wp_bind, T.wp_mapEx, e2]
  refine one_wp (Nat.lt_of_sub_eq_succ rfl) (Nat.le_of_ble_eq_true rfl) (by omega) fun d hd => ?_
  refine k d ?_
  simp only [List.mem_cons, List.not_mem_nil, or_false] at hd
  rcases hd with h | h | h | h | h | h
  · exact .inl h
  · exact .inr (.inl h)
  · exact .inr (.inr (.inl ⟨_, h⟩))
  · exact .inr (.inr (.inr (.inl h)))
  · exact .inr (.inr (.inr (.inr (.inl h))))
  · exact .inr (.inr (.inr (.inr (.inr h))))
def Bad (d : D) : Prop := d = .none ∨ d = .int 0 ∨ d = .int (-1) ∨ d = .bool true ∨ d = .str "3" ∨ d = .int 201 ∨ d = .int 1000000000000000000000000000000 ∨ d = .tuple [.int 3]
theorem z9_wp (hn : n + 1 ≤ 1048576) (k : ∀ d, Bad d → Q (.nx [none, vW, s2, s3, s4, s5, s6, s7, s8, s9, s10, s11, s12, s13, s14, vD d, none, none, none, none, none]) (n + 1)) :
    Wp (z9 [none, vW, s2, s3, s4, s5, s6, s7, s8, s9, s10, s11, s12, s13, s14, s15, none, none, none, none, none]) n Q Z := by
  rw [Wp_eq]
  have e2 := pow10_30
  unfold z9
  simp [T.wp_bind, T.wp_mapEx, e2]
  refine one_wp (by decide) (by decide) (by omega) fun d hd => ?_
  refine k d ?_
  simp only [List.mem_cons, List.not_mem_nil, or_false] at hd
  exact hd
theorem has_odd (d m : D) (h : Odd d) : Cm.f_Manner_has 5 [.d m, .d d] = .ret (.bool false) := by
  rcases h with rfl | rfl | ⟨xs, rfl⟩ | rfl | rfl | rfl <;> simp [Cm.f_Manner_has, Cm.b_Manner_has, isB, tyN]
theorem texts_bad (d m : D) (h : Bad d) : Cm.f_Manner_texts 5 3 4 [.d m, .d d] = .ex ⟨3, [("part", .str "many")]⟩ := by
  rcases h with rfl | rfl | rfl | rfl | rfl | rfl | rfl | rfl <;> simp [Cm.f_Manner_texts, Cm.b_Manner_texts, Cm.f_is_within, Cm.b_is_within, Cm.f_is_integer, Cm.b_is_integer, isB, tyN]
theorem word_number {fl : FE} {δ : Sl} {s : Str} (h : (fl (forget δ)).bind W.dat = .ex ⟨3, [("part", .str s)]⟩) : fLam fl 2 b__law_word δ = .ret (.d (.tuple [.str "number", .str s])) := by
  unfold fLam
  rw [h]
  rfl
theorem word_many {fl : FE} {δ : Sl} (h : (fl (forget δ)).bind W.dat = .ex (tooMany 4)) : fLam fl 2 b__law_word δ = .ret (.d (.tuple [.str "texts", .int 5000])) := by
  unfold fLam
  rw [h]
  rfl
end K07

namespace K07
open PySem PySem.Spec FL Cm
variable {s2 s3 s4 s5 s6 s7 s8 s9 s10 s11 s12 s13 s14 s15 : Option S} {n : Nat} {Q : Out → Nat → Prop} {Z : Xn × Sl → Nat → Prop} {U L x y t : List Nat} {ps : List Pr} {P M : D}
theorem z10_ev {d b : D} (hd : Odd d) (hb : Bad b) : z10 [none, vW, s2, s3, s4, vD (mn x y ps), s6, s7, s8, s9, s10, s11, s12, s13, vD d, vD b, none, none, none, none, none] = .ret (.nx [none, vW, s2, s3, s4, vD (mn x y ps), s6, s7, s8, s9, s10, s11, s12, s13, vD d, vD b, none, none, none, none, none]) := by
  have e1 := has_odd d (manner 5 x y ps (useful x y ps)) hd
  have e2 := texts_bad b (manner 5 x y ps (useful x y ps)) hb
  have l1 : (manner 5 x y ps (useful x y ps)) = .obj 5 (fields x y ps (useful x y ps)) := rfl
  have l2 : (fields x y ps (useful x y ps)).lookup ("has" : Str) = none := rfl
  have l3 : (fields x y ps (useful x y ps)).lookup ("texts" : Str) = none := rfl
  rw [l1] at e1 e2
  have e3 := word_number (fl := fMethI [5] "texts" 1 0 [.arg 0, .arg 1] (Cm.f_Manner_texts 5 3 4) (fVar 5) (fCons (fVar 15) fNil) fNil) (δ := [none, vW, s2, s3, s4, vD (mn x y ps), s6, s7, s8, s9, s10, s11, s12, s13, vD d, vD b, none, none, none, none, none]) (s := "many") (by
    simp [forget_cons, mn, l1, l3, planW, Pl.w, e2])
  have ok : okEq (.tuple [.str "number", .str "many"]) = true := by decide +kernel
  have ev : eqv (.tuple [.str "number", .str "many"]) (.tuple [.str "number", .str "many"]) = true := by decide +kernel
  simp only [mn] at e3 ⊢
  simp only [l1] at e3 ⊢
  unfold z10
  simp [-eqv_tuple, l2, planW, Pl.w, e1, e3, ok, ev]
/-! ### one round -/
def Sh (δ : Sl) : Prop := ∃ o2 o3 o4 o5 o6 o7 o8 o9 o10 o11 o12 o13 o14 o15 : Option D, δ = [none, vW, oD o2, oD o3, oD o4, oD o5, oD o6, oD o7, oD o8, oD o9, oD o10, oD o11, oD o12, oD o13, oD o14, oD o15, none, none, none, none, none]
theorem hp_one {t : RS Out} {n : Nat} {δ : Sl} {Q : Out → Nat → Prop} {Z : Xn × Sl → Nat → Prop} (e : t = .ret (.nx δ)) (k : Q (.nx δ) n) : Wp t n Q Z := by
  rw [Wp_eq, e]
  exact k
theorem oD_own (o : Option D) : isOwn (some (oD o)) = false := by cases o <;> rfl
theorem body_wp {o2 o3 o4 o5 o6 o7 o8 o9 o10 o11 o12 o13 o14 o15 : Option D} {n : Nat} {Q : Out → Nat → Prop} {Z : Xn × Sl → Nat → Prop} (hn : n + 1000 ≤ 1048576) (k : ∀ n' δ', n' ≤ n + 300 → Sh δ' → Q (.nx δ') n') :
    Wp (zBody [none, vW, oD o2, oD o3, oD o4, oD o5, oD o6, oD o7, oD o8, oD o9, oD o10, oD o11, oD o12, oD o13, oD o14, oD o15, none, none, none, none, none]) n Q Z := by
  unfold zBody
  rw [hp_wp]
  refine z0_wp (by omega) fun L h1 h2 h3 h4 => ?_
  have hll : L.length * L.length ≤ 4 * 4 := Nat.mul_le_mul h4 h4
  rw [oSeq_nx, hp_wp]
  refine z1_wp h1 h2 h3 h4 (by omega) fun x y ps R => ?_
  have h := R.fine
  rw [oSeq_nx, hp_ret (z2_ev h R.tn), hp_ret (z3_ev R.toRound h3 h4 (oD_own o13)), hp_wp]
  refine z4_wp h3 h4 (by omega) fun l n1 l1 l2 hn1 => ?_
  rw [oSeq_nx, hp_wp]
  have lx := R.xs.length_le
  refine z5_wp R.xn (by omega) (by omega) fun a ha => ?_
  rw [oSeq_nx, hp_wp]
  refine z6_wp h ha (by omega) fun t p11 p12 n2 t1 t2 t3 hn2 => ?_
  rw [oSeq_nx, hp_ret (z7_ev h (by omega) (fun b hb => h.ua b (l2 b hb)) t2 (fun b hb => h.ua b (t3 b hb))), hp_wp]
  refine z8_wp (by omega) (by omega) fun d hd => ?_
  rw [oSeq_nx, hp_wp]
  refine z9_wp (by omega) fun b hb => ?_
  rw [oSeq_nx]
  refine hp_one (z10_ev hd hb) ?_
  exact k _ _ (by omega) ⟨o2, some _, some _, some _, some _, some _, some _, some _, some _, p11, p12, some _, some _, some _, rfl⟩
/-! ### told manners -/
theorem NN_5 : ∃ k, NN = k + 5 := ⟨999995, rfl⟩
theorem letL (L : List Nat) (h : L.all isL = true) : ∀ c ∈ L, isL c = true := fun c hc => List.all_eq_true.mp h c hc
def psO : List Pr := [(97, 97), (97, 98), (98, 97), (98, 98)]
def psE : List Pr := [(97, 97), (97, 98), (98, 98)]
theorem lex_dec {ps : List Pr} (h : ps.Pairwise fun p q => p.1 < q.1 ∨ (p.1 = q.1 ∧ p.2 < q.2)) : ps.Pairwise lexP := h
theorem rO : Round [97, 98] [97, 98] [97] psO := ⟨by decide, letL _ (by decide +kernel), by decide, List.Sublist.refl _, by decide, lex_dec (by decide), by decide⟩
theorem rT : Round [97] [97] [97] [(97, 97)] := ⟨by decide, letL _ (by decide +kernel), by decide, List.Sublist.refl _, List.Sublist.refl _, lex_dec (by decide), by decide⟩
theorem rE : Round [97, 98] [97] [97] psE := ⟨by decide, letL _ (by decide +kernel), by decide, by decide, by decide, lex_dec (by decide), by decide⟩
theorem uO : useful [97, 98] [97] psO = [97, 98] := by
  obtain ⟨k, hk⟩ := NN_5
  have e : led psO NN [97, 98] 0 = [97, 98] := by rw [hk]; simp [led, Cm.step, psO]
  have e2 : led (sw psO) NN [97] 0 = [97, 98] := by rw [hk]; simp [led, Cm.step, sw, psO]
  unfold useful
  rw [e, e2]
  rfl
theorem uT : useful [97] [97] [(97, 97)] = [97] := by
  obtain ⟨k, hk⟩ := NN_5
  have e : led [(97, 97)] NN [97] 0 = [97] := by rw [hk]; simp [led, Cm.step]
  have e2 : led (sw [(97, 97)]) NN [97] 0 = [97] := by rw [hk]; simp [led, Cm.step, sw]
  unfold useful
  rw [e, e2]
  rfl
theorem uE : useful [97] [97] psE = [97] := by
  obtain ⟨k, hk⟩ := NN_5
  have e : led psE NN [97] 0 = [97, 98] := by rw [hk]; simp [led, Cm.step, psE]
  have e2 : led (sw psE) NN [97] 0 = [97] := by rw [hk]; simp [led, Cm.step, sw, psE]
  unfold useful
  rw [e, e2]
  rfl
abbrev mO : D := manner 5 [97, 98] [97] psO [97, 98]
abbrev mT : D := manner 5 [97] [97] [(97, 97)] [97]
abbrev mE : D := manner 5 [97] [97] psE [97]
theorem initO : Cm.f_Manner_init 5 2 [.d (.str "ab"), .d (.list [.str "aa", .str "ab", .str "ba", .str "bb"]), .d (.str "a")] = .ret mO := by
  have k : Cm.f_Manner_init 5 2 [.d (.str (tx [97, 98])), .d (.list (psD psO)), .d (.str (tx [97]))] = .ret (manner 5 [97, 98] [97] psO (useful [97, 98] [97] psO)) := manner_ev rO.fine (.inl rfl) (by rw [uO]; exact List.cons_ne_nil _ _)
  rw [uO] at k
  exact k
theorem initT : Cm.f_Manner_init 5 2 [.d (.str "a"), .d (.list [.str "aa"]), .d (.str "a")] = .ret mT := by
  have k : Cm.f_Manner_init 5 2 [.d (.str (tx [97])), .d (.list (psD [(97, 97)])), .d (.str (tx [97]))] = .ret (manner 5 [97] [97] [(97, 97)] (useful [97] [97] [(97, 97)])) := manner_ev rT.fine (.inl rfl) (by rw [uT]; exact List.cons_ne_nil _ _)
  rw [uT] at k
  exact k
theorem initE : Cm.f_Manner_init 5 2 [.d (.str "a"), .d (.list [.str "aa", .str "ab", .str "bb"]), .d (.str "a")] = .ret mE := by
  have k : Cm.f_Manner_init 5 2 [.d (.str (tx [97])), .d (.list (psD psE)), .d (.str (tx [97]))] = .ret (manner 5 [97] [97] psE (useful [97] [97] psE)) := manner_ev rE.fine (.inl rfl) (by rw [uE]; exact List.cons_ne_nil _ _)
  rw [uE] at k
  exact k
theorem vO_ : MnV 5 mO [97, 98] [97] psO := manner_v (c := 5) rO.fine [97, 98]
theorem vT_ : MnV 5 mT [97] [97] [(97, 97)] := manner_v (c := 5) rT.fine [97]
theorem vE_ : MnV 5 mE [97] [97] [(97, 97)] := manner_v (c := 5) rE.fine [97]
/-! ### how many -/
theorem tk_succ (q : List Pr) : ∀ (k : Nat) (ts : List (List Nat)), tk q (k + 1) ts = stepT q (tk q k ts)
  | 0, ts => rfl
  | k + 1, ts => tk_succ q k (stepT q ts)
def AB (ts : List (List Nat)) : Prop := ∀ t ∈ ts, t.getLastD 0 = 97 ∨ t.getLastD 0 = 98
theorem next97 : nextTo psO 97 = [97, 98] := rfl
theorem next98 : nextTo psO 98 = [97, 98] := rfl
theorem last_snoc (t : List Nat) (a : Nat) : (t ++ [a]).getLastD 0 = a := by simp
theorem stepO_cons (t : List Nat) (ts : List (List Nat)) (h : t.getLastD 0 = 97 ∨ t.getLastD 0 = 98) : stepT psO (t :: ts) = (t ++ [97]) :: (t ++ [98]) :: stepT psO ts := by
  unfold stepT
  rw [List.flatMap_cons]
  rcases h with h | h <;> rw [h] <;> rfl
theorem stepO : ∀ (ts : List (List Nat)), AB ts → (stepT psO ts).length = 2 * ts.length ∧ AB (stepT psO ts) ∧ ((stepT psO ts).filter fun t => decide (t.getLastD 0 ∈ [97])).length = ts.length
  | [], _ => ⟨rfl, fun t h => (List.not_mem_nil h).elim, rfl⟩
  | t :: ts, h => by
    obtain ⟨h1, h2, h3⟩ := stepO ts fun u hu => h u (List.mem_cons_of_mem _ hu)
    rw [stepO_cons t ts (h t (List.mem_cons_self ..))]
    refine ⟨by rw [List.length_cons, List.length_cons, List.length_cons, h1]; omega, fun u hu => ?_, ?_⟩
    · rcases List.mem_cons.mp hu with rfl | hu
      · exact .inl (last_snoc _ _)
      · rcases List.mem_cons.mp hu with rfl | hu
        · exact .inr (last_snoc _ _)
        · exact h2 u hu
    · rw [List.filter_cons, if_pos (by rw [last_snoc]; rfl), List.filter_cons, if_neg (by rw [last_snoc]; decide), List.length_cons, h3, List.length_cons]
theorem tkO : ∀ k : Nat, (tk psO k (ones [97, 98])).length = 2 ^ (k + 1) ∧ AB (tk psO k (ones [97, 98]))
  | 0 => ⟨rfl, fun t h => by
    rcases List.mem_cons.mp h with rfl | h
    · exact .inl rfl
    · rw [List.mem_singleton.mp h]
      exact .inr rfl⟩
  | k + 1 => by
    obtain ⟨h1, h2⟩ := tkO k
    obtain ⟨g1, g2, _⟩ := stepO _ h2
    rw [tk_succ]
    exact ⟨by rw [g1, h1, Nat.pow_succ 2 (k + 1)]; omega, g2⟩
theorem fitsO : fits psO 11 (ones [97, 98]) := fun j hj => by
  rw [(tkO (j + 1)).1]
  exact Nat.le_trans (Nat.pow_le_pow_right (by decide) (show j + 1 + 1 ≤ 12 by omega)) (by decide)
theorem textsO13 : Cm.f_Manner_texts 5 3 4 [.d mO, .d (.int 13)] = .ex (tooMany 4) := texts_ex (bn := 3) (tm := 4) (k := 13) (i := 11) vO_ (by decide) (by decide) (by decide) fitsO (by rw [(tkO 12).1]; decide)
theorem textsO12 : ∃ xs : List D, xs.length = 2048 ∧ Cm.f_Manner_texts 5 3 4 [.d mO, .d (.int 12)] = .ret (.tuple xs) := by
  refine ⟨_, ?_, texts_ev (bn := 3) (tm := 4) (k := 12) vO_ (by decide) (by decide) fitsO (fun t ht => ?_)⟩
  · rw [tds_len, List.length_map]
    have e : tk psO (12 - 1) (ones [97, 98]) = stepT psO (tk psO 10 (ones [97, 98])) := tk_succ psO 10 _
    rw [e, (stepO _ (tkO 10).2).2.2, (tkO 10).1]
  · rcases (tkO 11).2 t ht with h | h <;> rw [h] <;> decide
theorem tkT : ∀ (k m : Nat), tk [(97, 97)] k [List.replicate (m + 1) 97] = [List.replicate (m + 1 + k) 97]
  | 0, m => rfl
  | k + 1, m => by
    have e : stepT [(97, 97)] [List.replicate (m + 1) 97] = [List.replicate (m + 1 + 1) 97] := by
      have hl : (List.replicate (m + 1) 97).getLastD 0 = 97 := by
        rw [List.replicate_succ', last_snoc]
      unfold stepT
      rw [List.flatMap_cons, hl, List.replicate_succ' (n := m + 1)]
      rfl
    show tk [(97, 97)] k (stepT [(97, 97)] [List.replicate (m + 1) 97]) = _
    rw [e, tkT k (m + 1)]
    congr 2
    omega
theorem textsT {m : D} (M : MnV 5 m [97] [97] [(97, 97)]) {k : Nat} (h1 : 1 ≤ k) (h2 : k ≤ 200) : Cm.f_Manner_texts 5 3 4 [.d m, .d (.int (k : Nat))] = .ret (.tuple [.str (tx (List.replicate k 97))]) := by
  obtain ⟨j, rfl⟩ : ∃ j, k = j + 1 := ⟨k - 1, by omega⟩
  have e : ∀ i, tk [(97, 97)] i (ones [97]) = [List.replicate (0 + 1 + i) 97] := fun i => tkT i 0
  have hl : (List.replicate (0 + 1 + j) 97).getLastD 0 = 97 := by
    rw [show 0 + 1 + j = j + 1 by omega, List.replicate_succ', last_snoc]
  rw [texts_ev (bn := 3) (tm := 4) M h1 h2 (fun i hi => by rw [e]; show 1 ≤ 5000; decide) (fun t ht => by
    rw [e] at ht
    rw [List.mem_singleton.mp ht]
    show (List.replicate (0 + 1 + j) 97).getLastD 0 < 128
    rw [hl]
    decide)]
  rw [e]
  show T.ret (D.tuple (tds (([List.replicate (0 + 1 + j) 97].filter fun t => decide (t.getLastD 0 ∈ [97])).map tx))) = _
  rw [List.filter_cons, if_pos (by rw [hl]; rfl), show 0 + 1 + j = j + 1 by omega]
  rfl
end K07

namespace K07
open PySem PySem.Spec FL Cm
variable {n : Nat} {Q : Out → Nat → Prop} {Z : Xn × Sl → Nat → Prop}
def fO : List (Str × D) := fields [97, 98] [97] psO [97, 98]
def fT : List (Str × D) := fields [97] [97] [(97, 97)] [97]
def fE : List (Str × D) := fields [97] [97] psE [97]
theorem oO : mO = .obj 5 fO := rfl
theorem oT : mT = .obj 5 fT := rfl
theorem oE : mE = .obj 5 fE := rfl
theorem lO : fO.lookup ("texts" : Str) = none := rfl
theorem lT : fT.lookup ("texts" : Str) = none := rfl
theorem lE : fE.lookup ("texts" : Str) = none := rfl
def y0F (G : FFn) : FS := (sUnp (.many [16, 17]) (fSeq .tuple (fCons (fMake 3 0 [.arg 0, .arg 1, .arg 2] G (fCons (fC (.str "ab")) (fCons (fSeq .list (fCons (fC (.str "aa")) (fCons (fC (.str "ab")) (fCons (fC (.str "ba")) (fCons (fC (.str "bb")) fNil))))) (fCons (fC (.str "a")) fNil))) fNil) (fCons (fMake 3 0 [.arg 0, .arg 1, .arg 2] G (fCons (fC (.str "a")) (fCons (fSeq .list (fCons (fC (.str "aa")) fNil)) (fCons (fC (.str "a")) fNil))) fNil) fNil))))
def y1F (F : FFn) : FS := (sIf (fOr (fVal (fOp dNe (fLam (fMethI [5] "texts" 1 0 [.arg 0, .arg 1] F (fVar 16) (fCons (fC (.int 13)) fNil) fNil) 2 b__law_word) (fSeq .tuple (fCons (fC (.str "texts")) (fCons (fC (.int 5000)) fNil))))) (fOr (fVal (fOp dNe (fCB rDicts (fCons (fMethI [5] "texts" 1 0 [.arg 0, .arg 1] F (fVar 16) (fCons (fC (.int 12)) fNil) fNil) fNil)) (fC (.int 2048)))) (fVal (fOp dNe (fMethI [5] "texts" 1 0 [.arg 0, .arg 1] F (fVar 17) (fCons (fC (.int 200)) fNil) fNil) (fSeq .tuple (fCons (fOp dMul2 (fC (.str "a")) (fC (.int 200))) fNil)))))) (sRet (fC (.bool false))) sNext)
def y2F (F G : FFn) : FS := (sRet (fOp dEq (fMethI [5] "texts" 1 0 [.arg 0, .arg 1] F (fMake 3 0 [.arg 0, .arg 1, .arg 2] G (fCons (fC (.str "a")) (fCons (fSeq .list (fCons (fC (.str "aa")) (fCons (fC (.str "ab")) (fCons (fC (.str "bb")) fNil)))) (fCons (fC (.str "a")) fNil))) fNil) (fCons (fC (.int 3)) fNil) fNil) (fSeq .tuple (fCons (fC (.str "aaa")) fNil))))
theorem y0_eq : y0 = y0F (Cm.f_Manner_init 5 2) := rfl
theorem y1_eq : y1 = y1F (Cm.f_Manner_texts 5 3 4) := rfl
theorem y2_eq : y2 = y2F (Cm.f_Manner_texts 5 3 4) (Cm.f_Manner_init 5 2) := rfl
variable {s2 s3 s4 s5 s6 s7 s8 s9 s10 s11 s12 s13 s14 s15 : Option S}
abbrev eS (s2 s3 s4 s5 s6 s7 s8 s9 s10 s11 s12 s13 s14 s15 s16 s17 : Option S) : Sl := [none, vW, s2, s3, s4, s5, s6, s7, s8, s9, s10, s11, s12, s13, s14, s15, s16, s17, none, none, none]
theorem y0_ev {G : FFn} {a b : D} (i1 : G [.d (.str "ab"), .d (.list [.str "aa", .str "ab", .str "ba", .str "bb"]), .d (.str "a")] = .ret a) (i2 : G [.d (.str "a"), .d (.list [.str "aa"]), .d (.str "a")] = .ret b) :
    y0F G (eS s2 s3 s4 s5 s6 s7 s8 s9 s10 s11 s12 s13 s14 s15 none none) = .ret (.nx (eS s2 s3 s4 s5 s6 s7 s8 s9 s10 s11 s12 s13 s14 s15 (vD a) (vD b))) := by
  unfold y0F
  simp [planW, Pl.w, i1, i2]
theorem y1_ev {F : FFn} {fa fb : List (Str × D)} {xs : List D} (la : fa.lookup ("texts" : Str) = none) (lb : fb.lookup ("texts" : Str) = none) (t1 : F [.d (.obj 5 fa), .d (.int 13)] = .ex (tooMany 4)) (lx : xs.length = 2048) (t2 : F [.d (.obj 5 fa), .d (.int 12)] = .ret (.tuple xs)) (t3 : F [.d (.obj 5 fb), .d (.int 200)] = .ret (.tuple [.str (repS 200 "a")])) :
    y1F F (eS s2 s3 s4 s5 s6 s7 s8 s9 s10 s11 s12 s13 s14 s15 (vD (.obj 5 fa)) (vD (.obj 5 fb))) = .ret (.nx (eS s2 s3 s4 s5 s6 s7 s8 s9 s10 s11 s12 s13 s14 s15 (vD (.obj 5 fa)) (vD (.obj 5 fb)))) := by
  have w := word_many (fl := fMethI [5] "texts" 1 0 [.arg 0, .arg 1] F (fVar 16) (fCons (fC (.int 13)) fNil) fNil) (δ := eS s2 s3 s4 s5 s6 s7 s8 s9 s10 s11 s12 s13 s14 s15 (vD (.obj 5 fa)) (vD (.obj 5 fb))) (by
    simp [forget_cons, la, planW, Pl.w, t1])
  have ok1 : okEq (.tuple [.str "texts", .int 5000]) = true := by decide +kernel
  have ev1 : eqv (.tuple [.str "texts", .int 5000]) (.tuple [.str "texts", .int 5000]) = true := by decide +kernel
  have ok2 : okEq (.tuple [.str (repS 200 "a")]) = true := by decide +kernel
  have ev2 : eqv (.tuple [.str (repS 200 "a")]) (.tuple [.str (repS 200 "a")]) = true := by decide +kernel
  have l1 : xs.length ≤ 1000000 := by omega
  have l2 : ("a" : Str).length ≤ 1000 := by decide +kernel
  have m : dMul2 (.str "a") (.int 200) = some (.str (repS 200 "a")) := by
    rw [dMul2_s, if_pos ⟨by decide, by decide, l2⟩]
    rfl
  generalize repS 200 "a" = z at *
  unfold y1F
  simp [-eqv_tuple, -dMul2_s, planW, Pl.w, la, lb, w, ok1, ev1, t2, lx, l1, t3, m, ok2, ev2]
theorem y2_ev {F G : FFn} {fe : List (Str × D)} {δ : Sl} (le : fe.lookup ("texts" : Str) = none) (i3 : G [.d (.str "a"), .d (.list [.str "aa", .str "ab", .str "bb"]), .d (.str "a")] = .ret (.obj 5 fe)) (t4 : F [.d (.obj 5 fe), .d (.int 3)] = .ret (.tuple [.str "aaa"])) : y2F F G δ = .ret (.rt (.bool true)) := by
  have ok3 : okEq (.tuple [.str "aaa"]) = true := by decide +kernel
  have ev3 : eqv (.tuple [.str "aaa"]) (.tuple [.str "aaa"]) = true := by decide +kernel
  unfold y2F
  simp [-eqv_tuple, planW, Pl.w, i3, le, t4, ok3, ev3]
theorem rep200 : tx (List.replicate 200 97) = repS 200 "a" := by decide +kernel
theorem rep3 : (tx (List.replicate 3 97) : Str) = "aaa" := by decide +kernel
theorem end_ev {δ : Sl} (h : Sh δ) : zEnd δ = .ret (.rt (.bool true)) := by
  obtain ⟨o2, o3, o4, o5, o6, o7, o8, o9, o10, o11, o12, o13, o14, o15, rfl⟩ := h
  obtain ⟨xs, lx, t2⟩ := textsO12
  have t3 : Cm.f_Manner_texts 5 3 4 [.d mT, .d (.int 200)] = .ret (.tuple [.str (tx (List.replicate 200 97))]) := textsT vT_ (k := 200) (by decide) (by decide)
  have t4 : Cm.f_Manner_texts 5 3 4 [.d mE, .d (.int 3)] = .ret (.tuple [.str (tx (List.replicate 3 97))]) := textsT vE_ (k := 3) (by decide) (by decide)
  rw [rep200] at t3
  rw [rep3] at t4
  unfold zEnd
  rw [y0_eq, y1_eq, y2_eq]
  refine (seq_eq (y0_ev (s2 := oD o2) (s3 := oD o3) (s4 := oD o4) (s5 := oD o5) (s6 := oD o6) (s7 := oD o7) (s8 := oD o8) (s9 := oD o9) (s10 := oD o10) (s11 := oD o11) (s12 := oD o12) (s13 := oD o13) (s14 := oD o14) (s15 := oD o15) initO initT)).trans ?_
  refine (seq_eq (y1_ev (fa := fO) (fb := fT) lO lT textsO13 lx t2 t3)).trans ?_
  exact y2_ev (fe := fE) lE initE t4
theorem k07_says : Says b_law 21 1 := by
  have e0 : lawD 21 1 = [none, vW, none, none, none, none, none, none, none, none, none, none, none, none, none, none, none, none, none, none, none] := rfl
  unfold Says
  rw [law_eq, e0, sSeq_def, T.wp_bind, sFor_def, T.wp_bind]
  have e1 : (fRng1 (fC (.int 3)) [none, vW, none, none, none, none, none, none, none, none, none, none, none, none, none, none, none, none, none, none, none] : R (List D)) = .ret (nums 0 3) := by
    simp [fRng1_def]
  rw [e1, lft_def, T.mapEx_ret, T.wp_ret]
  refine loop_wp 3 (fun j n δ => n ≤ 300 * j ∧ Sh δ) (fun j n δ x hj ⟨h1, h2⟩ => ?_) (nums 0 3) 0 0 _ (by unfold nums; rw [List.length_map, List.length_range]) ⟨Nat.le_refl _, none, none, none, none, none, none, none, none, none, none, none, none, none, none, rfl⟩ (fun n' δ' ⟨_, h2⟩ => ?_)
  · obtain ⟨o2, o3, o4, o5, o6, o7, o8, o9, o10, o11, o12, o13, o14, o15, rfl⟩ := h2
    refine ⟨_, rfl, of_hp <| body_wp (o2 := some x) (by omega) fun n' δ' h3 h4 => ⟨δ', rfl, by omega, h4⟩⟩
  · rw [oSeq_nx, end_ev h2]
    exact ⟨_, rfl, rfl⟩
end K07

/-! What the written part says of an own exception class, asked by one Bool. -/
namespace Ck
open PySem PySem.Spec L2 Fx
def veT : List Value := [.type "ValueError", .type "Exception", .type "BaseException", .type "object"]
def eO (a b : Option (Option Value)) : Bool := decide (a = b)
theorem eO_ok {a b : Option (Option Value)} (h : eO a b = true) : a = b := of_decide_eq_true h
def eB (a : Option Bool) (b : Bool) : Bool := match a with
  | some c => c == b
  | none => false
theorem eB_ok {a : Option Bool} {b : Bool} (h : eB a b = true) : a = some b := by
  cases a with
  | none => cases h
  | some c => exact congrArg some (beq_iff_eq.mp h)
theorem ba {a b : Bool} (h : (a && b) = true) : a = true ∧ b = true := Bool.and_eq_true_iff.mp h
def clsB (K : PySem.W.Frag) (C : Addr) : Bool := match K.lookup C with
  | some ⟨.type "type", _, .cls cd, sl⟩ => (match cd.mro, sl.toList with
    | .ref C' :: bm, [_, _, _, _, some (.builtin n), _] => C' == C && n == "ValueError.__new__" && !cd.hasDel && cd.hasDict && PySem.HandSPX.refsVE bm
    | _, _ => false)
  | _ => false
theorem clsB_ok {K : PySem.W.Frag} {C : Addr} (q : clsB K C = true) :
    ∃ nm q N bs bm sn sub ab col dd k0 k1 k2 k3 k5, K.lookup C = some (excClassObj nm q C N bs bm true sn sub ab col dd k0 k1 k2 k3 k5 "ValueError.__new__") ∧ PySem.HandSPX.refsVE bm = true := by
  unfold clsB at q
  split at q
  · rename_i dd cd sl ho
    split at q
    · rename_i C' bm k0 k1 k2 k3 n k5 hm hs
      simp only [Bool.and_eq_true, beq_iff_eq, Bool.not_eq_true'] at q
      obtain ⟨⟨⟨⟨rfl, rfl⟩, hdel⟩, hd⟩, hr⟩ := q
      obtain ⟨nm, bs, mro, ns, qn, hd', sn, sub, ab, col, del⟩ := cd
      dsimp only at hm hdel hd
      subst hm hdel hd
      have hsl : sl = #[k0, k1, k2, k3, some (.builtin "ValueError.__new__"), k5] := by
        obtain ⟨l⟩ := sl
        simp only at hs
        rw [hs]
      subst hsl
      exact ⟨nm, qn, ns, bs, bm, sn, sub, ab, col, dd, k0, k1, k2, k3, k5, ho, hr⟩
    · cases q
  · cases q
def tyB (a : Option Value) (b : Value) : Bool := decide (a = some b)
/-- the class, made and read as an exception -/
def exB (K : PySem.W.Frag) (C : Addr) : Bool := clsB K C && (eO (PySem.W.findIn K (.ref C) "__setattr__") (some (some (.builtin "object.__setattr__"))) && (eB (PySem.W.subIn K (.ref C) (.type "BaseException")) true && (tyB (PySem.W.typeIn K (.ref C)) (.type "type") && PySem.W.keepIn K (.ref C))))
theorem exB_ok {K : PySem.W.Frag} {C : Addr} (h : exB K C = true) : OexC K C := by
  obtain ⟨h1, h⟩ := ba h
  obtain ⟨h2, h⟩ := ba h
  obtain ⟨h3, h⟩ := ba h
  obtain ⟨h4, h5⟩ := ba h
  exact ⟨clsB_ok h1, eO_ok h2, eB_ok h3, of_decide_eq_true h4, h5⟩
def atB (K : PySem.W.Frag) (C : Addr) : Bool := eO (PySem.W.findIn K (.ref C) "__getattribute__") (some (some (.builtin "BaseException.__getattribute__"))) && (eO (PySem.W.findIn K (.ref C) "__getattr__") (some none) && (eB (PySem.W.subIn K (.ref C) (.type "BaseException")) true &&
  (PySem.W.hasDictIn K C && (eO (PySem.W.findIn K (.ref C) "__class__") (some (some (.builtin "object.__class__"))) && (eO (PySem.W.specialIn K (.builtin "object.__class__") "__get__") (some (some (.builtin "getset_descriptor.__get__"))) &&
  (eB (PySem.W.takesIn K (.builtin "object.__class__")) true && eB (PySem.W.mroIn K C (.type "object")) true))))))
theorem atB_ok {K : PySem.W.Frag} {C : Addr} (h : atB K C = true) : ExAttr K C := by
  obtain ⟨h1, h⟩ := ba h
  obtain ⟨h2, h⟩ := ba h
  obtain ⟨h3, h⟩ := ba h
  obtain ⟨h4, h⟩ := ba h
  obtain ⟨h5, h⟩ := ba h
  obtain ⟨h6, h⟩ := ba h
  obtain ⟨h7, h8⟩ := ba h
  exact ⟨eO_ok h1, eO_ok h2, eB_ok h3, h4, eO_ok h5, eO_ok h6, eB_ok h7, eB_ok h8⟩
/-- .. whose __init__ is that of D, at fI, over ValueError's -/
def xcB (K : PySem.W.Frag) (C D fI : Addr) : Bool := exB K C && (eO (PySem.W.findIn K (.ref C) "__init__") (some (some (.ref fI))) && (eB (PySem.W.mroIn K C (.ref D)) true && (eO (PySem.W.ks_superIn K C D "__init__") (some (some (.builtin "ValueError.__init__"))) && eB (PySem.W.subIn K (.ref C) (.type "ValueError")) true)))
theorem xcB_ok {K : PySem.W.Frag} {C D fI : Addr} (h : xcB K C D fI = true) : XC K C D fI := by
  obtain ⟨h1, h⟩ := ba h
  obtain ⟨h2, h⟩ := ba h
  obtain ⟨h3, h⟩ := ba h
  obtain ⟨h4, h5⟩ := ba h
  exact { exB_ok h1 with iC := eO_ok h2, sub := eB_ok h3, sup := eO_ok h4, ve := eB_ok h5 }
def noB (K : PySem.W.Frag) (C : Addr) (f : Str) : Bool := eO (PySem.W.findIn K (.ref C) f) (some none)
theorem noB_ok {K : PySem.W.Frag} {C : Addr} {f : Str} (h : noB K C f = true) : PySem.W.findIn K (.ref C) f = some none := eO_ok h
def nothB (K : PySem.W.Frag) (C : Addr) : Bool := PySem.W.excIn K C veT "ValueError.__new__" && PySem.W.keepIn K (.ref C)
/-- a table of isinstance: rows classes, columns classes -/
def kitB (K : PySem.W.Frag) (cs : List Addr) (ds : List Value) (b : Nat → Nat → Bool) : Bool := (List.range cs.length).all fun i => (List.range ds.length).all fun j => eB (PySem.W.kitOne K (.ref (cs.getD i 0)) (ds.getD j .none)) (b i j)
theorem kitB_ok {K : PySem.W.Frag} {cs : List Addr} {ds : List Value} {b : Nat → Nat → Bool} (h : kitB K cs ds b = true) {i j : Nat} (hi : i < cs.length) (hj : j < ds.length) : PySem.W.kitOne K (.ref (cs.getD i 0)) (ds.getD j .none) = some (b i j) := by
  have h1 := List.all_eq_true.mp h i (List.mem_range.mpr hi)
  exact eB_ok (List.all_eq_true.mp h1 j (List.mem_range.mpr hj))
end Ck

/-! What the written part says of an own class, asked by Bools. -/
namespace FL
open PySem PySem.Spec L2 Fx Ck
def clB (K : PySem.W.Frag) (C : Addr) : Bool := PySem.W.plainGet K C Str.empty && (PySem.W.hasDictIn K C && (PySem.W.plainOver K C && eO (PySem.W.findIn K (.ref C) "__setattr__") (some (some (.builtin "object.__setattr__")))))
theorem clB_ok {K : PySem.W.Frag} {C : Addr} (h : clB K C = true) : Cls K C := by
  obtain ⟨h1, h⟩ := ba h
  obtain ⟨h2, h⟩ := ba h
  obtain ⟨h3, h4⟩ := ba h
  exact ⟨h1, h2, h3, eO_ok h4⟩
def mkB (K : PySem.W.Frag) (C f : Addr) : Bool := PySem.W.makesIn K C && (eO (PySem.W.findIn K (.ref C) "__init__") (some (some (.ref f))) && (PySem.W.isFn K (.ref f) && PySem.W.keepIn K (.ref C)))
theorem mkB_ok {K : PySem.W.Frag} {C f : Addr} (h : mkB K C f = true) : Mk K C f := by
  obtain ⟨h1, h⟩ := ba h
  obtain ⟨h2, h⟩ := ba h
  obtain ⟨h3, h4⟩ := ba h
  exact ⟨h1, eO_ok h2, h3, h4⟩
def insB (K : PySem.W.Frag) (C : Addr) : Bool := clB K C && (eO (PySem.W.findIn K (.ref C) "__class__") (some (some (.builtin "object.__class__"))) && (eO (PySem.W.specialIn K (.builtin "object.__class__") "__get__") (some (some (.builtin "getset_descriptor.__get__"))) &&
  (eB (PySem.W.takesIn K (.builtin "object.__class__")) true && eB (PySem.W.mroIn K C (.type "object")) true)))
theorem insB_ok {K : PySem.W.Frag} {C : Addr} (h : insB K C = true) : InsC K C := by
  obtain ⟨h1, h⟩ := ba h
  obtain ⟨h2, h⟩ := ba h
  obtain ⟨h3, h⟩ := ba h
  obtain ⟨h4, h5⟩ := ba h
  exact ⟨clB_ok h1, eO_ok h2, eO_ok h3, eB_ok h4, eB_ok h5⟩
def obB (K : PySem.W.Frag) (C : Addr) : Bool := match K.lookup C with
  | some ⟨.type "type", _, .cls cd, sl⟩ => (match cd.mro, sl.toList with
    | .ref C' :: bm, [_, _, _, _, some (.builtin _), _] => C' == C && !cd.hasDel && bm.contains (.type "object")
    | _, _ => false)
  | _ => false
theorem obB_ok {K : PySem.W.Frag} {C : Addr} (q : obB K C = true) :
    ∃ (nm q : Str) (N : Addr) (bs bm : List Value) (hdct : Bool) (sn : List Str) (sub : List Value) (ab : Bool) (col : Option Bool) (dd : Option Addr) (k0 k1 k2 k3 k5 : Option Value) (nid : String),
    K.lookup C = some (excClassObj nm q C N bs bm hdct sn sub ab col dd k0 k1 k2 k3 k5 nid) ∧ bm.contains (.type "object") = true := by
  unfold obB at q
  split at q
  · rename_i dd cd sl ho
    split at q
    · rename_i C' bm k0 k1 k2 k3 n k5 hm hs
      simp only [Bool.and_eq_true, beq_iff_eq, Bool.not_eq_true'] at q
      obtain ⟨⟨rfl, hdel⟩, hr⟩ := q
      obtain ⟨nm, bs, mro, ns, qn, hd', sn, sub, ab, col, del⟩ := cd
      dsimp only at hm hdel
      subst hm hdel
      have hsl : sl = #[k0, k1, k2, k3, some (.builtin n), k5] := by
        obtain ⟨l⟩ := sl
        simp only at hs
        rw [hs]
      subst hsl
      exact ⟨nm, qn, ns, bs, bm, hd', sn, sub, ab, col, dd, k0, k1, k2, k3, k5, n, ho, hr⟩
    · cases q
  · cases q
def eqcB (K : PySem.W.Frag) (C f : Addr) : Bool := eO (PySem.W.findIn K (.ref C) "__eq__") (some (some (.ref f))) && (PySem.W.isFn K (.ref f) && (eO (PySem.W.findIn K (.ref C) "__ne__") (some (some (.builtin "object.__ne__"))) && obB K C))
theorem eqcB_ok {K : PySem.W.Frag} {C f : Addr} (h : eqcB K C f = true) : EqC K C f := by
  obtain ⟨h1, h⟩ := ba h
  obtain ⟨h2, h⟩ := ba h
  obtain ⟨h3, h4⟩ := ba h
  exact ⟨eO_ok h1, h2, eO_ok h3, obB_ok h4⟩
def metB (K : PySem.W.Frag) (C : Addr) (m : Str) (f : Addr) : Bool := eO (PySem.W.findIn K (.ref C) m) (some (some (.ref f))) && (PySem.W.isFn K (.ref f) && PySem.W.keepIn K (.ref f))
theorem metB_ok {K : PySem.W.Frag} {C : Addr} {m : Str} {f : Addr} (h : metB K C m f = true) : Meth K C m f := by
  obtain ⟨h1, h⟩ := ba h
  obtain ⟨h2, h3⟩ := ba h
  exact ⟨eO_ok h1, h2, h3⟩
def nfB (K : PySem.W.Frag) (C : Addr) : Bool := ["NoneType", "bool", "int", "str", "list", "tuple", "dict"].all fun T => PySem.W.notFirst K C (.type T)
theorem nfB_ok {K : PySem.W.Frag} {C : Addr} (h : nfB K C = true) : ∀ T ∈ ["NoneType", "bool", "int", "str", "list", "tuple", "dict"], PySem.W.notFirst K C (.type T) = true := List.all_eq_true.mp h
def noneB (K : PySem.W.Frag) (C : Addr) : Bool := ["NoneType", "bool", "int", "str", "list", "tuple", "dict"].all fun T => eB (PySem.W.kitOne K (.type T) (.ref C)) false
theorem isw_own {K : Kx} {C : Addr} {tb : List (Nat × Bool)} (h : noneB K.K C = true) (ho : ∀ c b, tb.lookup c = some b → InsC K.K (K.ct c) ∧ PySem.W.kitOne K.K (.ref (K.ct c)) (.ref C) = some b) : IsW K (.ref C) none tb := by
  have key := List.all_eq_true.mp h
  refine ⟨fun d hd b e => ?_, ho⟩
  have g : ∀ T ∈ ["NoneType", "bool", "int", "str", "list", "tuple", "dict"], PySem.W.kitOne K.K (.type T) (.ref C) = some false := fun T hT => eB_ok (key T hT)
  cases d with
  | obj c fs => cases hd
  | any => cases hd
  | none => cases e; exact g "NoneType" (by simp)
  | bool _ => cases e; exact g "bool" (by simp)
  | int _ => cases e; exact g "int" (by simp)
  | str _ => cases e; exact g "str" (by simp)
  | list _ => cases e; exact g "list" (by simp)
  | tuple _ => cases e; exact g "tuple" (by simp)
  | dict _ => cases e; exact g "dict" (by simp)
  | dicT _ => cases e; exact g "dict" (by simp)
  | tag _ _ => cases e; exact g "list" (by simp)
theorem plOk_args {K : Kx} (l : List Nat) : PlOk K (l.map .arg) := fun p hp => by
  obtain ⟨i, _, rfl⟩ := List.mem_map.mp hp
  trivial
theorem lk_one {c c' : Nat} {b b' : Bool} (h : [(c, b)].lookup c' = some b') : c' = c ∧ b' = b := by
  by_cases z : c' = c
  · subst z
    rw [List.lookup_cons_self] at h
    exact ⟨rfl, (Option.some.inj h).symm⟩
  · have : (c' == c) = false := by simpa using z
    rw [List.lookup, this] at h
    cases h
end FL

namespace K07
open PySem PySem.Spec PyProof.Rows L2 NdefX Gd Fx Stp LamX Lm FL Ck
def nf (st : Stmt) (qual : Str) (cc c : Addr) : NF := ⟨"__init__", qual, defArgs st, defBody st, defScope st, [(("__class__" : Str), cc)], c⟩
abbrev sP : Stmt := inClass (top 8) 0
abbrev sM : Stmt := inClass (top 11) 0
section
variable {P : Program} {w : World} {K : PySem.W.Frag} {mg : Str → Option Value} {base : Heap} {fI D cc c : Addr} {fd : FuncData}
theorem ok_initP (T : SupTxt P K mg fI fd (nf sP "PartError.__init__" cc c) cc D) : FnOk P w K mg base CX0 1 fI fd ["self", "part"] (spInit1 K D fI "part") := by
  refine fn_super (k := 0) (N := ["self", "part", "__class__"]) T (nscope_by (show nscB _ _ _ (defScope sP) = true by decide +kernel)) rfl rfl (show (defScope sP).names.lookup ("super" : Str) = some .globalImplicit by decide +kernel) rfl (fun vs H Q E h => ?_) (fun A outer s H vs Q E hr h => ?_) (fun _ => rfl) (fun _ => rfl) (fun _ => rfl) (fun _ => rfl)
  · obtain ⟨a, C, y, rfl, _⟩ := h
    rfl
  · obtain ⟨a, C, y, rfl, TC, n1, ha, k⟩ := h
    refine ⟨_, _, pa_cons (pv 1) pa_nil, pss_one (ps_ost (pv 0) (pv 1)), a, C, rfl, TC, ha, _, rfl, by simp, ha, ?_⟩
    refine ⟨_, rfl, _, rfl, a, C, rfl, TC.toOexC, n1, .inl ⟨ha, fun d hd hda => k d _ ⟨hd, hda, upd_same, by rw [upd_ne hda, upd_same], fun b h1 h2 => by rw [upd_ne h1, upd_ne h2]⟩⟩⟩
theorem ok_initM (T : SupTxt P K mg fI fd (nf sM "TooMany.__init__" cc c) cc D) : FnOk P w K mg base CX0 1 fI fd ["self", "what", "most"] (spInit2 K D fI "what" "most") := by
  refine fn_super (k := 0) (N := ["self", "what", "most", "__class__"]) T (nscope_by (show nscB _ _ _ (defScope sM) = true by decide +kernel)) rfl rfl (show (defScope sM).names.lookup ("super" : Str) = some .globalImplicit by decide +kernel) rfl (fun vs H Q E h => ?_) (fun A outer s H vs Q E hr h => ?_) (fun _ => rfl) (fun _ => rfl) (fun _ => rfl) (fun _ => rfl)
  · obtain ⟨a, C, y, z, rfl, _⟩ := h
    rfl
  · obtain ⟨a, C, y, z, rfl, TC, n1, n2, ha, k⟩ := h
    refine ⟨_, _, pa_cons (pv 1) (pa_cons (pv 2) pa_nil), pss_cons (ps_ost (pv 0) (pv 1)) (pss_one (ps_ost (pv 0) (pv 2))), a, C, rfl, TC, ha, _, rfl, _, rfl, by simp, ha, ?_⟩
    refine ⟨_, rfl, _, rfl, a, C, rfl, TC.toOexC, n1, .inl ⟨ha, fun d hd hda => ?_⟩⟩
    refine ⟨_, rfl, _, rfl, a, C, rfl, TC.toOexC, n2, .inr ⟨d, _, upd_same, by rw [upd_ne hda, upd_same], by simp, k d _ ⟨hd, hda, by rw [upd_ne hda.symm, upd_same], upd_same, fun b h1 h2 => by rw [upd_ne h2, upd_ne h1, upd_ne h2]⟩⟩⟩

end
def tupB (o : Obj) (is : List Int) : Bool := match o.cls, o.data with
  | .type "tuple", .seq its _ => (decide (its.size ≤ sizeLine)) && (its.toList.map fun u => match u with | .int i _ => some i | _ => none) == is.map some
  | _, _ => false
theorem vals_some : ∀ (us : List Value) (is : List Int), (us.map fun u => match u with | .int i _ => some i | _ => none) = is.map some → Vals (is.map V.int) us
  | [], [], _ => .nil
  | [], _ :: _, h => by cases h
  | _ :: _, [], h => by cases h
  | u :: us, i :: is, h => by
    rw [List.map_cons, List.map_cons] at h
    injection h with h1 h2
    have : RelV (.int i) u := by
      cases u <;> simp at h1
      subst h1
      exact ⟨_, rfl⟩
    exact .cons this (vals_some us is h2)
theorem dvs_ints {K : Kx} {G : Hp} : ∀ is : List Int, DVs K G (is.map V.int) (is.map D.int)
  | [] => .nil
  | i :: is => .cons (.int i) (dvs_ints is)
theorem globTup {K : Kx} {mg : Str → Option Value} {x : Str} {a : Addr} {o : Obj} {is : List Int} (h : mg x = some (.ref a)) (hl : K.K.lookup a = some o) (hb : tupB o is = true) : GlobF K mg x (.tuple (is.map D.int)) := by
  unfold tupB at hb
  split at hb
  · rename_i its n hc hd
    rw [Bool.and_eq_true, decide_eq_true_eq, beq_iff_eq] at hb
    exact ⟨_, .ref a, h, rfl, fun G => .tup (.inr ⟨o, its, n, hl, hc, hd, hb.1, vals_some _ _ hb.2⟩) (dvs_ints is)⟩
  · cases hb
end K07

namespace K07
open PySem PySem.Spec PyProof.Rows L2 NdefX Gd Fx Stp LamX Lm FL Ck
theorem all_mk {l : PySem.W.OpenLaw} {w : World} {K : PySem.W.Frag} {h : Heap} {mg : Str → Option Value} {fa : Addr} (X : K.In h) (G : h.Ns mainGlobals mg) (hfa : mg "law" = some (.ref fa))
    {aManner : Addr}
    {aBadManner aBadNumber aTooMany aPartError fP fM : Addr}
    {f_law_well : Addr} {oc_law_well kV_law_well dc_law_well pm_law_well ct_law_well d_law_well : Value} {od_law_well an_law_well : Option Addr} {sl_law_well : Array (Option Value)}
    {f_law_draw : Addr} {oc_law_draw kV_law_draw dc_law_draw pm_law_draw ct_law_draw d_law_draw : Value} {od_law_draw an_law_draw : Option Addr} {sl_law_draw : Array (Option Value)}
    {f_law_one : Addr} {oc_law_one kV_law_one dc_law_one pm_law_one ct_law_one d_law_one : Value} {od_law_one an_law_one : Option Addr} {sl_law_one : Array (Option Value)}
    {f_law_pairs : Addr} {oc_law_pairs kV_law_pairs dc_law_pairs pm_law_pairs ct_law_pairs d_law_pairs : Value} {od_law_pairs an_law_pairs : Option Addr} {sl_law_pairs : Array (Option Value)}
    {f_law_some : Addr} {oc_law_some kV_law_some dc_law_some pm_law_some ct_law_some d_law_some : Value} {od_law_some an_law_some : Option Addr} {sl_law_some : Array (Option Value)}
    {f_law_plain_manner : Addr} {oc_law_plain_manner kV_law_plain_manner dc_law_plain_manner pm_law_plain_manner ct_law_plain_manner d_law_plain_manner : Value} {od_law_plain_manner an_law_plain_manner : Option Addr} {sl_law_plain_manner : Array (Option Value)}
    {fled_from : Addr} {ocled_from kVled_from dcled_from pmled_from ctled_from dled_from : Value} {odled_from anled_from : Option Addr} {slled_from : Array (Option Value)}
    {fascends : Addr} {ocascends kVascends dcascends pmascends ctascends dascends : Value} {odascends anascends : Option Addr} {slascends : Array (Option Value)}
    {fare_letters : Addr} {ocare_letters kVare_letters dcare_letters pmare_letters ctare_letters dare_letters : Value} {odare_letters anare_letters : Option Addr} {slare_letters : Array (Option Value)}
    {fis_row : Addr} {ocis_row kVis_row dcis_row pmis_row ctis_row dis_row : Value} {odis_row anis_row : Option Addr} {slis_row : Array (Option Value)}
    {fare_pairs : Addr} {ocare_pairs kVare_pairs dcare_pairs pmare_pairs ctare_pairs dare_pairs : Value} {odare_pairs anare_pairs : Option Addr} {slare_pairs : Array (Option Value)}
    {fManner_init : Addr} {ocManner_init kVManner_init dcManner_init pmManner_init ctManner_init dManner_init : Value} {odManner_init anManner_init : Option Addr} {slManner_init : Array (Option Value)}
    {fis_integer : Addr} {ocis_integer kVis_integer dcis_integer pmis_integer ctis_integer dis_integer : Value} {odis_integer anis_integer : Option Addr} {slis_integer : Array (Option Value)}
    {fis_within : Addr} {ocis_within kVis_within dcis_within pmis_within ctis_within dis_within : Value} {odis_within anis_within : Option Addr} {slis_within : Array (Option Value)}
    {fManner_next_to : Addr} {ocManner_next_to kVManner_next_to dcManner_next_to pmManner_next_to ctManner_next_to dManner_next_to : Value} {odManner_next_to anManner_next_to : Option Addr} {slManner_next_to : Array (Option Value)}
    {fManner_texts : Addr} {ocManner_texts kVManner_texts dcManner_texts pmManner_texts ctManner_texts dManner_texts : Value} {odManner_texts anManner_texts : Option Addr} {slManner_texts : Array (Option Value)}
    {f_law_manner : Addr} {oc_law_manner kV_law_manner dc_law_manner pm_law_manner ct_law_manner d_law_manner : Value} {od_law_manner an_law_manner : Option Addr} {sl_law_manner : Array (Option Value)}
    {f_law_word : Addr} {oc_law_word kV_law_word dc_law_word pm_law_word ct_law_word d_law_word : Value} {od_law_word an_law_word : Option Addr} {sl_law_word : Array (Option Value)}
    {f_law_order : Addr} {oc_law_order kV_law_order dc_law_order pm_law_order ct_law_order d_law_order : Value} {od_law_order an_law_order : Option Addr} {sl_law_order : Array (Option Value)}
    {fManner_has : Addr} {ocManner_has kVManner_has dcManner_has pmManner_has ctManner_has dManner_has : Value} {odManner_has anManner_has : Option Addr} {slManner_has : Array (Option Value)}
    {f_law_is_text : Addr} {oc_law_is_text kV_law_is_text dc_law_is_text pm_law_is_text ct_law_is_text d_law_is_text : Value} {od_law_is_text an_law_is_text : Option Addr} {sl_law_is_text : Array (Option Value)}
    {flaw : Addr} {oclaw kVlaw dclaw pmlaw ctlaw : Value} {odlaw anlaw : Option Addr} {sllaw : Array (Option Value)} {claw Plaw : Addr} {ccllaw : Value} {cddlaw : Option Addr} {vslaw : Array Value} {ccslaw : Array (Option Value)}
    {tLETTERS : Tok}
    {tMOST_LONG : Tok}
    {tMOST_TEXTS : Tok}
    {ccP coP : Addr} {ocP kVP dcP pmP ctP : Value} {odP anP : Option Addr} {slP : Array (Option Value)} {cclP : Value} {cddP : Option Addr} {vsP : Array Value} {ccsP : Array (Option Value)} {fiP : Str} {tfP : Tok} {celP : Value} {celdP : Option Addr} {cslP : Array (Option Value)}
    {ccM coM : Addr} {ocM kVM dcM pmM ctM : Value} {odM anM : Option Addr} {slM : Array (Option Value)} {cclM : Value} {cddM : Option Addr} {vsM : Array Value} {ccsM : Array (Option Value)} {fiM : Str} {tfM : Tok} {celM : Value} {celdM : Option Addr} {cslM : Array (Option Value)}
    (qBadManner : PySem.W.nsIn K mainGlobals "BadManner" = some (some (.ref aBadManner)))
    (qBadNumber : PySem.W.nsIn K mainGlobals "BadNumber" = some (some (.ref aBadNumber)))
    (qTooMany : PySem.W.nsIn K mainGlobals "TooMany" = some (some (.ref aTooMany)))
    (qManner : PySem.W.nsIn K mainGlobals "Manner" = some (some (.ref aManner)))
    (qPartError : PySem.W.nsIn K mainGlobals "PartError" = some (some (.ref aPartError)))
    (zall : PySem.W.nsIn K mainGlobals "all" = some none)
    (zbool : PySem.W.nsIn K mainGlobals "bool" = some none)
    (zint : PySem.W.nsIn K mainGlobals "int" = some none)
    (zisinstance : PySem.W.nsIn K mainGlobals "isinstance" = some none)
    (zlen : PySem.W.nsIn K mainGlobals "len" = some none)
    (zlist : PySem.W.nsIn K mainGlobals "list" = some none)
    (zrange : PySem.W.nsIn K mainGlobals "range" = some none)
    (zrepr : PySem.W.nsIn K mainGlobals "repr" = some none)
    (zset : PySem.W.nsIn K mainGlobals "set" = some none)
    (zsorted : PySem.W.nsIn K mainGlobals "sorted" = some none)
    (zstr : PySem.W.nsIn K mainGlobals "str" = some none)
    (zsum : PySem.W.nsIn K mainGlobals "sum" = some none)
    (ztuple : PySem.W.nsIn K mainGlobals "tuple" = some none)
    (zzip : PySem.W.nsIn K mainGlobals "zip" = some none)
    (zabs : PySem.W.nsIn K mainGlobals "abs" = some none)
    (g_law_well : PySem.W.nsIn K mainGlobals "_law_well" = some (some (.ref f_law_well)))
    (l_law_well : K.lookup f_law_well = some ⟨oc_law_well, od_law_well, .func (PySem.W.fnOf "_law_well" "_law_well" (defArgs sWell) (defBody sWell) (defScope sWell) .none kV_law_well dc_law_well pm_law_well an_law_well d_law_well ct_law_well), sl_law_well⟩)
    (i_law_well : PySem.W.codeIn K d_law_well "_law_well" = true)
    (k_law_well : PySem.W.keepIn K (.ref f_law_well) = true)
    (g_law_draw : PySem.W.nsIn K mainGlobals "_law_draw" = some (some (.ref f_law_draw)))
    (l_law_draw : K.lookup f_law_draw = some ⟨oc_law_draw, od_law_draw, .func (PySem.W.fnOf "_law_draw" "_law_draw" (defArgs sDraw) (defBody sDraw) (defScope sDraw) .none kV_law_draw dc_law_draw pm_law_draw an_law_draw d_law_draw ct_law_draw), sl_law_draw⟩)
    (i_law_draw : PySem.W.codeIn K d_law_draw "_law_draw" = true)
    (k_law_draw : PySem.W.keepIn K (.ref f_law_draw) = true)
    (g_law_one : PySem.W.nsIn K mainGlobals "_law_one" = some (some (.ref f_law_one)))
    (l_law_one : K.lookup f_law_one = some ⟨oc_law_one, od_law_one, .func (PySem.W.fnOf "_law_one" "_law_one" (defArgs (top 22)) (defBody (top 22)) (defScope (top 22)) .none kV_law_one dc_law_one pm_law_one an_law_one d_law_one ct_law_one), sl_law_one⟩)
    (i_law_one : PySem.W.codeIn K d_law_one "_law_one" = true)
    (k_law_one : PySem.W.keepIn K (.ref f_law_one) = true)
    (g_law_pairs : PySem.W.nsIn K mainGlobals "_law_pairs" = some (some (.ref f_law_pairs)))
    (l_law_pairs : K.lookup f_law_pairs = some ⟨oc_law_pairs, od_law_pairs, .func (PySem.W.fnOf "_law_pairs" "_law_pairs" (defArgs (top 25)) (defBody (top 25)) (defScope (top 25)) .none kV_law_pairs dc_law_pairs pm_law_pairs an_law_pairs d_law_pairs ct_law_pairs), sl_law_pairs⟩)
    (i_law_pairs : PySem.W.codeIn K d_law_pairs "_law_pairs" = true)
    (k_law_pairs : PySem.W.keepIn K (.ref f_law_pairs) = true)
    (g_law_some : PySem.W.nsIn K mainGlobals "_law_some" = some (some (.ref f_law_some)))
    (l_law_some : K.lookup f_law_some = some ⟨oc_law_some, od_law_some, .func (PySem.W.fnOf "_law_some" "_law_some" (defArgs (top 23)) (defBody (top 23)) (defScope (top 23)) .none kV_law_some dc_law_some pm_law_some an_law_some d_law_some ct_law_some), sl_law_some⟩)
    (i_law_some : PySem.W.codeIn K d_law_some "_law_some" = true)
    (k_law_some : PySem.W.keepIn K (.ref f_law_some) = true)
    (g_law_plain_manner : PySem.W.nsIn K mainGlobals "_law_plain_manner" = some (some (.ref f_law_plain_manner)))
    (l_law_plain_manner : K.lookup f_law_plain_manner = some ⟨oc_law_plain_manner, od_law_plain_manner, .func (PySem.W.fnOf "_law_plain_manner" "_law_plain_manner" (defArgs (top 26)) (defBody (top 26)) (defScope (top 26)) .none kV_law_plain_manner dc_law_plain_manner pm_law_plain_manner an_law_plain_manner d_law_plain_manner ct_law_plain_manner), sl_law_plain_manner⟩)
    (i_law_plain_manner : PySem.W.codeIn K d_law_plain_manner "_law_plain_manner" = true)
    (k_law_plain_manner : PySem.W.keepIn K (.ref f_law_plain_manner) = true)
    (gled_from : PySem.W.nsIn K mainGlobals "led_from" = some (some (.ref fled_from)))
    (lled_from : K.lookup fled_from = some ⟨ocled_from, odled_from, .func (PySem.W.fnOf "led_from" "led_from" (defArgs (top 17)) (defBody (top 17)) (defScope (top 17)) .none kVled_from dcled_from pmled_from anled_from dled_from ctled_from), slled_from⟩)
    (iled_from : PySem.W.codeIn K dled_from "led_from" = true)
    (kled_from : PySem.W.keepIn K (.ref fled_from) = true)
    (gascends : PySem.W.nsIn K mainGlobals "ascends" = some (some (.ref fascends)))
    (lascends : K.lookup fascends = some ⟨ocascends, odascends, .func (PySem.W.fnOf "ascends" "ascends" (defArgs (top 5)) (defBody (top 5)) (defScope (top 5)) .none kVascends dcascends pmascends anascends dascends ctascends), slascends⟩)
    (iascends : PySem.W.codeIn K dascends "ascends" = true)
    (kascends : PySem.W.keepIn K (.ref fascends) = true)
    (gare_letters : PySem.W.nsIn K mainGlobals "are_letters" = some (some (.ref fare_letters)))
    (lare_letters : K.lookup fare_letters = some ⟨ocare_letters, odare_letters, .func (PySem.W.fnOf "are_letters" "are_letters" (defArgs (top 15)) (defBody (top 15)) (defScope (top 15)) .none kVare_letters dcare_letters pmare_letters anare_letters dare_letters ctare_letters), slare_letters⟩)
    (iare_letters : PySem.W.codeIn K dare_letters "are_letters" = true)
    (kare_letters : PySem.W.keepIn K (.ref fare_letters) = true)
    (gis_row : PySem.W.nsIn K mainGlobals "is_row" = some (some (.ref fis_row)))
    (lis_row : K.lookup fis_row = some ⟨ocis_row, odis_row, .func (PySem.W.fnOf "is_row" "is_row" (defArgs (top 4)) (defBody (top 4)) (defScope (top 4)) .none kVis_row dcis_row pmis_row anis_row dis_row ctis_row), slis_row⟩)
    (iis_row : PySem.W.codeIn K dis_row "is_row" = true)
    (kis_row : PySem.W.keepIn K (.ref fis_row) = true)
    (gare_pairs : PySem.W.nsIn K mainGlobals "are_pairs" = some (some (.ref fare_pairs)))
    (lare_pairs : K.lookup fare_pairs = some ⟨ocare_pairs, odare_pairs, .func (PySem.W.fnOf "are_pairs" "are_pairs" (defArgs (top 16)) (defBody (top 16)) (defScope (top 16)) .none kVare_pairs dcare_pairs pmare_pairs anare_pairs dare_pairs ctare_pairs), slare_pairs⟩)
    (iare_pairs : PySem.W.codeIn K dare_pairs "are_pairs" = true)
    (kare_pairs : PySem.W.keepIn K (.ref fare_pairs) = true)
    (gManner_init : PySem.W.findIn K (.ref aManner) "__init__" = some (some (.ref fManner_init)))
    (lManner_init : K.lookup fManner_init = some ⟨ocManner_init, odManner_init, .func (PySem.W.fnOf "__init__" "Manner.__init__" (defArgs (inClass (top 18) 0)) (defBody (inClass (top 18) 0)) (defScope (inClass (top 18) 0)) .none kVManner_init dcManner_init pmManner_init anManner_init dManner_init ctManner_init), slManner_init⟩)
    (iManner_init : PySem.W.codeIn K dManner_init "Manner.__init__" = true)
    (kManner_init : PySem.W.keepIn K (.ref fManner_init) = true)
    (gis_integer : PySem.W.nsIn K mainGlobals "is_integer" = some (some (.ref fis_integer)))
    (lis_integer : K.lookup fis_integer = some ⟨ocis_integer, odis_integer, .func (PySem.W.fnOf "is_integer" "is_integer" (defArgs (top 2)) (defBody (top 2)) (defScope (top 2)) .none kVis_integer dcis_integer pmis_integer anis_integer dis_integer ctis_integer), slis_integer⟩)
    (iis_integer : PySem.W.codeIn K dis_integer "is_integer" = true)
    (kis_integer : PySem.W.keepIn K (.ref fis_integer) = true)
    (gis_within : PySem.W.nsIn K mainGlobals "is_within" = some (some (.ref fis_within)))
    (lis_within : K.lookup fis_within = some ⟨ocis_within, odis_within, .func (PySem.W.fnOf "is_within" "is_within" (defArgs (top 3)) (defBody (top 3)) (defScope (top 3)) .none kVis_within dcis_within pmis_within anis_within dis_within ctis_within), slis_within⟩)
    (iis_within : PySem.W.codeIn K dis_within "is_within" = true)
    (kis_within : PySem.W.keepIn K (.ref fis_within) = true)
    (gManner_next_to : PySem.W.findIn K (.ref aManner) "next_to" = some (some (.ref fManner_next_to)))
    (lManner_next_to : K.lookup fManner_next_to = some ⟨ocManner_next_to, odManner_next_to, .func (PySem.W.fnOf "next_to" "Manner.next_to" (defArgs (inClass (top 18) 2)) (defBody (inClass (top 18) 2)) (defScope (inClass (top 18) 2)) .none kVManner_next_to dcManner_next_to pmManner_next_to anManner_next_to dManner_next_to ctManner_next_to), slManner_next_to⟩)
    (iManner_next_to : PySem.W.codeIn K dManner_next_to "Manner.next_to" = true)
    (kManner_next_to : PySem.W.keepIn K (.ref fManner_next_to) = true)
    (gManner_texts : PySem.W.findIn K (.ref aManner) "texts" = some (some (.ref fManner_texts)))
    (lManner_texts : K.lookup fManner_texts = some ⟨ocManner_texts, odManner_texts, .func (PySem.W.fnOf "texts" "Manner.texts" (defArgs (inClass (top 18) 4)) (defBody (inClass (top 18) 4)) (defScope (inClass (top 18) 4)) .none kVManner_texts dcManner_texts pmManner_texts anManner_texts dManner_texts ctManner_texts), slManner_texts⟩)
    (iManner_texts : PySem.W.codeIn K dManner_texts "Manner.texts" = true)
    (kManner_texts : PySem.W.keepIn K (.ref fManner_texts) = true)
    (g_law_manner : PySem.W.nsIn K mainGlobals "_law_manner" = some (some (.ref f_law_manner)))
    (l_law_manner : K.lookup f_law_manner = some ⟨oc_law_manner, od_law_manner, .func (PySem.W.fnOf "_law_manner" "_law_manner" (defArgs (top 27)) (defBody (top 27)) (defScope (top 27)) .none kV_law_manner dc_law_manner pm_law_manner an_law_manner d_law_manner ct_law_manner), sl_law_manner⟩)
    (i_law_manner : PySem.W.codeIn K d_law_manner "_law_manner" = true)
    (k_law_manner : PySem.W.keepIn K (.ref f_law_manner) = true)
    (g_law_word : PySem.W.nsIn K mainGlobals "_law_word" = some (some (.ref f_law_word)))
    (l_law_word : K.lookup f_law_word = some ⟨oc_law_word, od_law_word, .func (PySem.W.fnOf "_law_word" "_law_word" (defArgs (top 28)) (defBody (top 28)) (defScope (top 28)) .none kV_law_word dc_law_word pm_law_word an_law_word d_law_word ct_law_word), sl_law_word⟩)
    (i_law_word : PySem.W.codeIn K d_law_word "_law_word" = true)
    (k_law_word : PySem.W.keepIn K (.ref f_law_word) = true)
    (g_law_order : PySem.W.nsIn K mainGlobals "_law_order" = some (some (.ref f_law_order)))
    (l_law_order : K.lookup f_law_order = some ⟨oc_law_order, od_law_order, .func (PySem.W.fnOf "_law_order" "_law_order" (defArgs (top 24)) (defBody (top 24)) (defScope (top 24)) .none kV_law_order dc_law_order pm_law_order an_law_order d_law_order ct_law_order), sl_law_order⟩)
    (i_law_order : PySem.W.codeIn K d_law_order "_law_order" = true)
    (k_law_order : PySem.W.keepIn K (.ref f_law_order) = true)
    (gManner_has : PySem.W.findIn K (.ref aManner) "has" = some (some (.ref fManner_has)))
    (lManner_has : K.lookup fManner_has = some ⟨ocManner_has, odManner_has, .func (PySem.W.fnOf "has" "Manner.has" (defArgs (inClass (top 18) 3)) (defBody (inClass (top 18) 3)) (defScope (inClass (top 18) 3)) .none kVManner_has dcManner_has pmManner_has anManner_has dManner_has ctManner_has), slManner_has⟩)
    (iManner_has : PySem.W.codeIn K dManner_has "Manner.has" = true)
    (kManner_has : PySem.W.keepIn K (.ref fManner_has) = true)
    (g_law_is_text : PySem.W.nsIn K mainGlobals "_law_is_text" = some (some (.ref f_law_is_text)))
    (l_law_is_text : K.lookup f_law_is_text = some ⟨oc_law_is_text, od_law_is_text, .func (PySem.W.fnOf "_law_is_text" "_law_is_text" (defArgs (top 29)) (defBody (top 29)) (defScope (top 29)) .none kV_law_is_text dc_law_is_text pm_law_is_text an_law_is_text d_law_is_text ct_law_is_text), sl_law_is_text⟩)
    (i_law_is_text : PySem.W.codeIn K d_law_is_text "_law_is_text" = true)
    (k_law_is_text : PySem.W.keepIn K (.ref f_law_is_text) = true)
    (glaw : PySem.W.nsIn K mainGlobals "law" = some (some (.ref flaw)))
    (llaw : K.lookup flaw = some ⟨oclaw, odlaw, .func (PySem.W.fnOf "law" "law" (defArgs (top 30)) (defBody (top 30)) (defScope (top 30)) .none kVlaw dclaw pmlaw anlaw (.ref claw) ctlaw), sllaw⟩)
    (ilaw : PySem.W.codeIn K (.ref claw) "law" = true)
    (klaw : PySem.W.keepIn K (.ref flaw) = true)
    (olaw : K.lookup claw = some ⟨ccllaw, cddlaw, .fields vslaw, ccslaw⟩)
    (vlaw : vslaw[11]? = some (.ref Plaw))
    (wLETTERS : PySem.W.nsIn K mainGlobals "LETTERS" = some (some (.str "abcdefghijklmnopqrstuvwxyz" tLETTERS)))
    (wMOST_LONG : PySem.W.nsIn K mainGlobals "MOST_LONG" = some (some (.int 200 tMOST_LONG)))
    (wMOST_TEXTS : PySem.W.nsIn K mainGlobals "MOST_TEXTS" = some (some (.int 5000 tMOST_TEXTS)))
    (iP : PySem.W.findIn K (.ref aPartError) "__init__" = some (some (.ref fP)))
    (lP : K.lookup fP = some ⟨ocP, odP, .func (PySem.W.fnX "__init__" "PartError.__init__" (defArgs sP) (defBody sP) (defScope sP) [(("__class__" : Str), ccP)] .none kVP dcP pmP anP (.ref coP) ctP), slP⟩)
    (cP : PySem.W.codeIn K (.ref coP) "PartError.__init__" = true)
    (oP : K.lookup coP = some ⟨cclP, cddP, .fields vsP, ccsP⟩)
    (vP : vsP[2]? = some (.str fiP tfP))
    (eP : ((l.prog.main.file : Str) == fiP) = true)
    (mP : K.lookup ccP = some ⟨celP, celdP, .cell (some (.ref aPartError)), cslP⟩)
    (iM : PySem.W.findIn K (.ref aTooMany) "__init__" = some (some (.ref fM)))
    (lM : K.lookup fM = some ⟨ocM, odM, .func (PySem.W.fnX "__init__" "TooMany.__init__" (defArgs sM) (defBody sM) (defScope sM) [(("__class__" : Str), ccM)] .none kVM dcM pmM anM (.ref coM) ctM), slM⟩)
    (cM : PySem.W.codeIn K (.ref coM) "TooMany.__init__" = true)
    (oM : K.lookup coM = some ⟨cclM, cddM, .fields vsM, ccsM⟩)
    (vM : vsM[2]? = some (.str fiM tfM))
    (eM : ((l.prog.main.file : Str) == fiM) = true)
    (mM : K.lookup ccM = some ⟨celM, celdM, .cell (some (.ref aTooMany)), cslM⟩)
    (opq : PySem.W.nsIn K cStatics "thirdparty.any" = some none)
    (topx : (l.prog.main.scope.names.lookup ("super" : Str)).isSome = false)
    (sup : PySem.W.nsIn K mainGlobals "super" = some none)
    (Tlaw : h.get? Plaw = some (PySem.W.tabObj #[]))
    (hck : (xcB K aBadManner aPartError fP && (xfB K aBadManner && (noB K aBadManner "part" && (eB (PySem.W.exmOne K (.ref aBadManner) (.ref aBadManner)) true && (eB (PySem.W.exmOne K (.ref aBadNumber) (.ref aBadManner)) false && (eB (PySem.W.exmOne K (.ref aTooMany) (.ref aBadManner)) false && (xcB K aBadNumber aPartError fP && (xfB K aBadNumber && (noB K aBadNumber "part" && (eB (PySem.W.exmOne K (.ref aBadManner) (.ref aBadNumber)) false && (eB (PySem.W.exmOne K (.ref aBadNumber) (.ref aBadNumber)) true && (eB (PySem.W.exmOne K (.ref aTooMany) (.ref aBadNumber)) false && (xcB K aTooMany aTooMany fM && (xfB K aTooMany && (noB K aTooMany "what" && (noB K aTooMany "most" && (eB (PySem.W.exmOne K (.ref aBadManner) (.ref aTooMany)) false && (eB (PySem.W.exmOne K (.ref aBadNumber) (.ref aTooMany)) false && (eB (PySem.W.exmOne K (.ref aTooMany) (.ref aTooMany)) true && (tyB (PySem.W.typeIn K (.ref fP)) (.type "function") && ((PySem.W.clsIn K aPartError).isSome && (tyB (PySem.W.typeIn K (.ref fM)) (.type "function") && ((PySem.W.clsIn K aTooMany).isSome && (PySem.W.codeHdIn K claw Plaw && ((K.lookup Plaw).isNone && (insB K aManner && (noneB K aManner && (eB (PySem.W.kitOne K (.ref aManner) (.ref aManner)) true && (mkB K aManner fManner_init && (noB K aManner "begins" && (noB K aManner "ends" && (noB K aManner "firsts" && (noB K aManner "follows" && (noB K aManner "lasts" && (noB K aManner "letters" && (noB K aManner "pairs" && (metB K aManner "next_to" fManner_next_to && (metB K aManner "texts" fManner_texts && (metB K aManner "has" fManner_has))))))))))))))))))))))))))))))))))))))) = true) :
    LawAtG l w K 6 63 "script" mg fa h := by
  obtain ⟨h_xBadManner, hck⟩ := ba hck
  obtain ⟨h_fBadManner, hck⟩ := ba hck
  obtain ⟨h_nBadManner_part, hck⟩ := ba hck
  obtain ⟨h_eBadMannerBadManner, hck⟩ := ba hck
  obtain ⟨h_eBadMannerBadNumber, hck⟩ := ba hck
  obtain ⟨h_eBadMannerTooMany, hck⟩ := ba hck
  obtain ⟨h_xBadNumber, hck⟩ := ba hck
  obtain ⟨h_fBadNumber, hck⟩ := ba hck
  obtain ⟨h_nBadNumber_part, hck⟩ := ba hck
  obtain ⟨h_eBadNumberBadManner, hck⟩ := ba hck
  obtain ⟨h_eBadNumberBadNumber, hck⟩ := ba hck
  obtain ⟨h_eBadNumberTooMany, hck⟩ := ba hck
  obtain ⟨h_xTooMany, hck⟩ := ba hck
  obtain ⟨h_fTooMany, hck⟩ := ba hck
  obtain ⟨h_nTooMany_what, hck⟩ := ba hck
  obtain ⟨h_nTooMany_most, hck⟩ := ba hck
  obtain ⟨h_eTooManyBadManner, hck⟩ := ba hck
  obtain ⟨h_eTooManyBadNumber, hck⟩ := ba hck
  obtain ⟨h_eTooManyTooMany, hck⟩ := ba hck
  obtain ⟨h_tP, hck⟩ := ba hck
  obtain ⟨h_sP, hck⟩ := ba hck
  obtain ⟨h_tM, hck⟩ := ba hck
  obtain ⟨h_sM, hck⟩ := ba hck
  obtain ⟨h_hlaw, hck⟩ := ba hck
  obtain ⟨h_Nlaw, hck⟩ := ba hck
  obtain ⟨h_Mannerins, hck⟩ := ba hck
  obtain ⟨h_Mannernon, hck⟩ := ba hck
  obtain ⟨h_Mannerkit, hck⟩ := ba hck
  obtain ⟨h_Mannermk, hck⟩ := ba hck
  obtain ⟨h_Manneratbegins, hck⟩ := ba hck
  obtain ⟨h_Manneratends, hck⟩ := ba hck
  obtain ⟨h_Manneratfirsts, hck⟩ := ba hck
  obtain ⟨h_Manneratfollows, hck⟩ := ba hck
  obtain ⟨h_Manneratlasts, hck⟩ := ba hck
  obtain ⟨h_Manneratletters, hck⟩ := ba hck
  obtain ⟨h_Manneratpairs, hck⟩ := ba hck
  obtain ⟨h_Mannermenext_to, hck⟩ := ba hck
  obtain ⟨h_Mannermetexts, hck⟩ := ba hck
  have h_Mannermehas := hck
  let KK : Kx := ⟨K, (fun c => [0, 0, aBadManner, aBadNumber, aTooMany, aManner].getD c 0)⟩
  have SP : SupTxt l.prog K mg fP _ (nf sP "PartError.__init__" ccP coP) ccP aPartError := ⟨rfl, ⟨ocP, odP, kVP, dcP, pmP, anP, ctP, slP, rfl, lP⟩, cP, ⟨cclP, cddP, vsP, ccsP, fiP, tfP, oP, vP, eP⟩, ⟨celP, celdP, cslP, mP⟩, Option.isSome_iff_exists.mp h_sP, opq, topx, PySem.W.mg_none_of X G sup⟩
  have SM : SupTxt l.prog K mg fM _ (nf sM "TooMany.__init__" ccM coM) ccM aTooMany := ⟨rfl, ⟨ocM, odM, kVM, dcM, pmM, anM, ctM, slM, rfl, lM⟩, cM, ⟨cclM, cddM, vsM, ccsM, fiM, tfM, oM, vM, eM⟩, ⟨celM, celdM, cslM, mM⟩, Option.isSome_iff_exists.mp h_sM, opq, topx, PySem.W.mg_none_of X G sup⟩
  have D : TxtD mg := ⟨PySem.W.mg_none_of X G zint, PySem.W.mg_none_of X G zlen, PySem.W.mg_none_of X G zabs⟩
  have F_law_well := fun_mk (st := sWell) l_law_well i_law_well k_law_well
  have b_law_well := F_law_well.binds (ps := ["script"]) fun _ _ _ _ _ _ us hl => match us, hl with | [_], _ => rfl
  have m_law_well := PySem.W.mg_of X G g_law_well
  have F_law_draw := fun_mk (st := sDraw) l_law_draw i_law_draw k_law_draw
  have b_law_draw := F_law_draw.binds (ps := ["well", "many"]) fun _ _ _ _ _ _ us hl => match us, hl with | [_, _], _ => rfl
  have m_law_draw := PySem.W.mg_of X G g_law_draw
  have F_law_one := fun_mk (st := (top 22)) l_law_one i_law_one k_law_one
  have b_law_one := F_law_one.binds (ps := ["well", "some"]) fun _ _ _ _ _ _ us hl => match us, hl with | [_, _], _ => rfl
  have m_law_one := PySem.W.mg_of X G g_law_one
  have F_law_pairs := fun_mk (st := (top 25)) l_law_pairs i_law_pairs k_law_pairs
  have b_law_pairs := F_law_pairs.binds (ps := ["letters"]) fun _ _ _ _ _ _ us hl => match us, hl with | [_], _ => rfl
  have m_law_pairs := PySem.W.mg_of X G g_law_pairs
  have F_law_some := fun_mk (st := (top 23)) l_law_some i_law_some k_law_some
  have b_law_some := F_law_some.binds (ps := ["well", "some", "many"]) fun _ _ _ _ _ _ us hl => match us, hl with | [_, _, _], _ => rfl
  have m_law_some := PySem.W.mg_of X G g_law_some
  have F_law_plain_manner := fun_mk (st := (top 26)) l_law_plain_manner i_law_plain_manner k_law_plain_manner
  have b_law_plain_manner := F_law_plain_manner.binds (ps := ["well", "letters"]) fun _ _ _ _ _ _ us hl => match us, hl with | [_, _], _ => rfl
  have m_law_plain_manner := PySem.W.mg_of X G g_law_plain_manner
  have Fled_from := fun_mk (st := (top 17)) lled_from iled_from kled_from
  have bled_from := Fled_from.binds (ps := ["letters", "follows"]) fun _ _ _ _ _ _ us hl => match us, hl with | [_, _], _ => rfl
  have mled_from := PySem.W.mg_of X G gled_from
  have Fascends := fun_mk (st := (top 5)) lascends iascends kascends
  have bascends := Fascends.binds (ps := ["some"]) fun _ _ _ _ _ _ us hl => match us, hl with | [_], _ => rfl
  have mascends := PySem.W.mg_of X G gascends
  have Fare_letters := fun_mk (st := (top 15)) lare_letters iare_letters kare_letters
  have bare_letters := Fare_letters.binds (ps := ["value"]) fun _ _ _ _ _ _ us hl => match us, hl with | [_], _ => rfl
  have mare_letters := PySem.W.mg_of X G gare_letters
  have Fis_row := fun_mk (st := (top 4)) lis_row iis_row kis_row
  have bis_row := Fis_row.binds (ps := ["value"]) fun _ _ _ _ _ _ us hl => match us, hl with | [_], _ => rfl
  have mis_row := PySem.W.mg_of X G gis_row
  have Fare_pairs := fun_mk (st := (top 16)) lare_pairs iare_pairs kare_pairs
  have bare_pairs := Fare_pairs.binds (ps := ["value"]) fun _ _ _ _ _ _ us hl => match us, hl with | [_], _ => rfl
  have mare_pairs := PySem.W.mg_of X G gare_pairs
  have FManner_init := fun_mk (st := (inClass (top 18) 0)) lManner_init iManner_init kManner_init
  have bManner_init := FManner_init.binds (ps := ["self", "firsts", "follows", "lasts"]) fun _ _ _ _ _ _ us hl => match us, hl with | [_, _, _, _], _ => rfl
  have Fis_integer := fun_mk (st := (top 2)) lis_integer iis_integer kis_integer
  have bis_integer := Fis_integer.binds (ps := ["value"]) fun _ _ _ _ _ _ us hl => match us, hl with | [_], _ => rfl
  have mis_integer := PySem.W.mg_of X G gis_integer
  have Fis_within := fun_mk (st := (top 3)) lis_within iis_within kis_within
  have bis_within := Fis_within.binds (ps := ["value", "least", "most"]) fun _ _ _ _ _ _ us hl => match us, hl with | [_, _, _], _ => rfl
  have mis_within := PySem.W.mg_of X G gis_within
  have FManner_next_to := fun_mk (st := (inClass (top 18) 2)) lManner_next_to iManner_next_to kManner_next_to
  have bManner_next_to := FManner_next_to.binds (ps := ["self", "letter"]) fun _ _ _ _ _ _ us hl => match us, hl with | [_, _], _ => rfl
  have FManner_texts := fun_mk (st := (inClass (top 18) 4)) lManner_texts iManner_texts kManner_texts
  have bManner_texts := FManner_texts.binds (ps := ["self", "many"]) fun _ _ _ _ _ _ us hl => match us, hl with | [_, _], _ => rfl
  have F_law_manner := fun_mk (st := (top 27)) l_law_manner i_law_manner k_law_manner
  have b_law_manner := F_law_manner.binds (ps := ["plain"]) fun _ _ _ _ _ _ us hl => match us, hl with | [_], _ => rfl
  have m_law_manner := PySem.W.mg_of X G g_law_manner
  have F_law_word := fun_mk (st := (top 28)) l_law_word i_law_word k_law_word
  have b_law_word := F_law_word.binds (ps := ["ask"]) fun _ _ _ _ _ _ us hl => match us, hl with | [_], _ => rfl
  have m_law_word := PySem.W.mg_of X G g_law_word
  have F_law_order := fun_mk (st := (top 24)) l_law_order i_law_order k_law_order
  have b_law_order := F_law_order.binds (ps := ["well", "some"]) fun _ _ _ _ _ _ us hl => match us, hl with | [_, _], _ => rfl
  have m_law_order := PySem.W.mg_of X G g_law_order
  have FManner_has := fun_mk (st := (inClass (top 18) 3)) lManner_has iManner_has kManner_has
  have bManner_has := FManner_has.binds (ps := ["self", "text"]) fun _ _ _ _ _ _ us hl => match us, hl with | [_, _], _ => rfl
  have F_law_is_text := fun_mk (st := (top 29)) l_law_is_text i_law_is_text k_law_is_text
  have b_law_is_text := F_law_is_text.binds (ps := ["plain", "text"]) fun _ _ _ _ _ _ us hl => match us, hl with | [_, _], _ => rfl
  have m_law_is_text := PySem.W.mg_of X G g_law_is_text
  have Flaw := fun_mk (st := (top 30)) llaw ilaw klaw
  have blaw := Flaw.binds (ps := ["script"]) fun _ _ _ _ _ _ us hl => match us, hl with | [_], _ => rfl
  have mlaw := PySem.W.mg_of X G glaw
  have e := hfa.symm.trans mlaw
  cases e
  refine ⟨PySem.W.fnOf "law" "law" (defArgs (top 30)) (defBody (top 30)) (defScope (top 30)) .none kVlaw dclaw pmlaw anlaw (.ref claw) ctlaw, [(claw, Plaw)], spLaw K [(Plaw, lamQ "law" (defScope (top 30)))], fun p hp => ?_, fun p hp => ?_, fun p hp => ?_, fun s v => .of_eq rfl, fun H a ns hl _ TT hS => ⟨a, ns, rfl, hS, hl, fun p hp => ?_, fun _ => rfl⟩, fun base KB nsB TB => ?_⟩
  · rcases List.mem_cons.mp hp with rfl | hp
    · exact Tlaw
    · cases hp
  · rcases List.mem_cons.mp hp with rfl | hp
    · exact Option.isNone_iff_eq_none.mp h_Nlaw
    · cases hp
  · rcases List.mem_cons.mp hp with rfl | hp
    · exact PySem.W.codeHd_of_K X h_hlaw
    · cases hp
  · rcases List.mem_cons.mp hp with rfl | hp
    · exact TabS.nil (TT.tab _ (.head _))
    · cases hp
  · have bIP : L2.Binds K (PySem.W.fnX "__init__" "PartError.__init__" (defArgs sP) (defBody sP) (defScope sP) [(("__class__" : Str), ccP)] .none kVP dcP pmP anP (.ref coP) ctP) ["self", "part"] [] := .all fun us hl => match us, hl with | [_, _], _ => rfl
    have bIM : L2.Binds K (PySem.W.fnX "__init__" "TooMany.__init__" (defArgs sM) (defBody sM) (defScope sM) [(("__class__" : Str), ccM)] .none kVM dcM pmM anM (.ref coM) ctM) ["self", "what", "most"] [] := .all fun us hl => match us, hl with | [_, _, _], _ => rfl
    have T : Tx l.prog w KK mg base := {
      n_all := PySem.W.mg_none_of X G zall
      n_bool := PySem.W.mg_none_of X G zbool
      n_int := PySem.W.mg_none_of X G zint
      n_isinstance := PySem.W.mg_none_of X G zisinstance
      n_len := PySem.W.mg_none_of X G zlen
      n_list := PySem.W.mg_none_of X G zlist
      n_range := PySem.W.mg_none_of X G zrange
      n_repr := PySem.W.mg_none_of X G zrepr
      n_set := PySem.W.mg_none_of X G zset
      n_sorted := PySem.W.mg_none_of X G zsorted
      n_str := PySem.W.mg_none_of X G zstr
      n_sum := PySem.W.mg_none_of X G zsum
      n_tuple := PySem.W.mg_none_of X G ztuple
      n_zip := PySem.W.mg_none_of X G zzip
      c_LETTERS := ⟨_, .str _, PySem.W.mg_of X G wLETTERS, ⟨_, rfl⟩, fun _ => .str _⟩
      c_MOST_LONG := ⟨_, .int _, PySem.W.mg_of X G wMOST_LONG, ⟨_, rfl⟩, fun _ => .int _⟩
      c_MOST_TEXTS := ⟨_, .int _, PySem.W.mg_of X G wMOST_TEXTS, ⟨_, rfl⟩, fun _ => .int _⟩
      r_BadManner := ⟨PySem.W.mg_of X G qBadManner, ⟨aPartError, fP, _, ["self", "part"], xcB_ok h_xBadManner, noB_ok h_nBadManner_part, of_decide_eq_true h_tP, ok_initP SP, bIP⟩⟩
      r_BadNumber := ⟨PySem.W.mg_of X G qBadNumber, ⟨aPartError, fP, _, ["self", "part"], xcB_ok h_xBadNumber, noB_ok h_nBadNumber_part, of_decide_eq_true h_tP, ok_initP SP, bIP⟩⟩
      h_BadNumber_part := ⟨xfB_ok h_fBadNumber, noB_ok h_nBadNumber_part⟩
      g_BadNumber := PySem.W.mg_of X G qBadNumber
      e_BadNumber := (List.forall_mem_cons.mpr ⟨eB_ok h_eBadNumberBadManner, (List.forall_mem_cons.mpr ⟨eB_ok h_eBadNumberBadNumber, (List.forall_mem_cons.mpr ⟨eB_ok h_eBadNumberTooMany, (List.forall_mem_nil _)⟩)⟩)⟩)
      r_TooMany := ⟨PySem.W.mg_of X G qTooMany, ⟨aTooMany, fM, _, ["self", "what", "most"], xcB_ok h_xTooMany, noB_ok h_nTooMany_what, noB_ok h_nTooMany_most, of_decide_eq_true h_tM, ok_initM SM, bIM⟩⟩
      h_TooMany_most := ⟨xfB_ok h_fTooMany, noB_ok h_nTooMany_most⟩
      h_TooMany_what := ⟨xfB_ok h_fTooMany, noB_ok h_nTooMany_what⟩
      g_TooMany := PySem.W.mg_of X G qTooMany
      e_TooMany := (List.forall_mem_cons.mpr ⟨eB_ok h_eTooManyBadManner, (List.forall_mem_cons.mpr ⟨eB_ok h_eTooManyBadNumber, (List.forall_mem_cons.mpr ⟨eB_ok h_eTooManyTooMany, (List.forall_mem_nil _)⟩)⟩)⟩)
      a_begins := (List.forall_mem_cons.mpr ⟨⟨(insB_ok h_Mannerins).cl, noB_ok h_Manneratbegins⟩, (List.forall_mem_nil _)⟩)
      a_ends := (List.forall_mem_cons.mpr ⟨⟨(insB_ok h_Mannerins).cl, noB_ok h_Manneratends⟩, (List.forall_mem_nil _)⟩)
      a_firsts := (List.forall_mem_cons.mpr ⟨⟨(insB_ok h_Mannerins).cl, noB_ok h_Manneratfirsts⟩, (List.forall_mem_nil _)⟩)
      a_follows := (List.forall_mem_cons.mpr ⟨⟨(insB_ok h_Mannerins).cl, noB_ok h_Manneratfollows⟩, (List.forall_mem_nil _)⟩)
      a_lasts := (List.forall_mem_cons.mpr ⟨⟨(insB_ok h_Mannerins).cl, noB_ok h_Manneratlasts⟩, (List.forall_mem_nil _)⟩)
      a_letters := (List.forall_mem_cons.mpr ⟨⟨(insB_ok h_Mannerins).cl, noB_ok h_Manneratletters⟩, (List.forall_mem_nil _)⟩)
      a_pairs := (List.forall_mem_cons.mpr ⟨⟨(insB_ok h_Mannerins).cl, noB_ok h_Manneratpairs⟩, (List.forall_mem_nil _)⟩) }
    have C__law_draw : CalF l.prog w KK mg base 1 "_law_draw" f__law_draw := ⟨⟨_, _, _, ok_drawF F_law_draw D, m_law_draw, k_law_draw, b_law_draw⟩⟩
    have G_law_one := ok__law_one (K := KK) F_law_one T C__law_draw
    have C__law_one : CalF l.prog w KK mg base 2 "_law_one" f__law_one := ⟨⟨_, _, _, G_law_one, m_law_one, k_law_one, b_law_one⟩⟩
    have G_law_pairs := ok__law_pairs (K := KK) F_law_pairs T 
    have C__law_pairs : CalF l.prog w KK mg base 1 "_law_pairs" f__law_pairs := ⟨⟨_, _, _, G_law_pairs, m_law_pairs, k_law_pairs, b_law_pairs⟩⟩
    have G_law_some := ok__law_some (K := KK) F_law_some T C__law_draw
    have C__law_some : CalF l.prog w KK mg base 2 "_law_some" f__law_some := ⟨⟨_, _, _, G_law_some, m_law_some, k_law_some, b_law_some⟩⟩
    have Gled_from := ok_led_from (K := KK) Fled_from T 
    have C_led_from : CalF l.prog w KK mg base 1 "led_from" f_led_from := ⟨⟨_, _, _, Gled_from, mled_from, kled_from, bled_from⟩⟩
    have Gascends := ok_ascends (K := KK) Fascends T 
    have C_ascends : CalF l.prog w KK mg base 1 "ascends" f_ascends := ⟨⟨_, _, _, Gascends, mascends, kascends, bascends⟩⟩
    have Gis_row := ok_is_row (K := KK) Fis_row T 
    have C_is_row : CalF l.prog w KK mg base 1 "is_row" f_is_row := ⟨⟨_, _, _, Gis_row, mis_row, kis_row, bis_row⟩⟩
    have Gis_integer := ok_is_integer (K := KK) Fis_integer T 
    have C_is_integer : CalF l.prog w KK mg base 1 "is_integer" f_is_integer := ⟨⟨_, _, _, Gis_integer, mis_integer, kis_integer, bis_integer⟩⟩
    have GManner_next_to := ok_Manner_next_to (K := KK) FManner_next_to T 
    have N_Manner_next_to_1 : MeP l.prog w KK mg base 1 [5] "next_to" 1 [] [.arg 0, .arg 1] f_Manner_next_to := ⟨⟨_, _, _, GManner_next_to, (List.forall_mem_cons.mpr ⟨⟨(insB_ok h_Mannerins).cl, metB_ok h_Mannermenext_to⟩, List.forall_mem_nil _⟩), ⟨fun s us ws _ h1 h2 => match us, ws, h1, h2 with | [_, _], [], _, _ => .of_eq rfl⟩, plOk_args [0, 1]⟩⟩
    have L__law_word : LamK l.prog w KK mg base 3 "_law_word" 2 b__law_word := ⟨⟨f_law_word, oc_law_word, _, _, _, .none, kV_law_word, dc_law_word, pm_law_word, d_law_word, ct_law_word, an_law_word, od_law_word, sl_law_word, ["ask", "error"], "ask", m_law_word, k_law_word, l_law_word, i_law_word, b_law_word, ⟨rfl, rfl, rfl, by decide +kernel, rfl, by decide +kernel, by decide +kernel⟩, rfl, (by first | exact Or.inl rfl | exact Or.inr (Or.inl rfl)), g__law_word T, rfl, by decide, by decide⟩⟩
    have G_law_order := ok__law_order (K := KK) F_law_order T C__law_draw
    have C__law_order : CalF l.prog w KK mg base 2 "_law_order" f__law_order := ⟨⟨_, _, _, G_law_order, m_law_order, k_law_order, b_law_order⟩⟩
    have GManner_has := ok_Manner_has (K := KK) FManner_has T 
    have N_Manner_has_1 : MeP l.prog w KK mg base 1 [5] "has" 1 [] [.arg 0, .arg 1] f_Manner_has := ⟨⟨_, _, _, GManner_has, (List.forall_mem_cons.mpr ⟨⟨(insB_ok h_Mannerins).cl, metB_ok h_Mannermehas⟩, List.forall_mem_nil _⟩), ⟨fun s us ws _ h1 h2 => match us, ws, h1, h2 with | [_, _], [], _, _ => .of_eq rfl⟩, plOk_args [0, 1]⟩⟩
    have N_Manner_has_0_text : MeP l.prog w KK mg base 1 [5] "has" 0 ["text"] [.arg 0, .arg 1] f_Manner_has := ⟨⟨_, _, _, GManner_has, (List.forall_mem_cons.mpr ⟨⟨(insB_ok h_Mannerins).cl, metB_ok h_Mannermehas⟩, List.forall_mem_nil _⟩), ⟨fun s us ws _ h1 h2 => match us, ws, h1, h2 with | [_], [_], _, _ => .of_eq rfl⟩, plOk_args [0, 1]⟩⟩
    have G_law_is_text := ok__law_is_text (K := KK) F_law_is_text T 
    have C__law_is_text : CalF l.prog w KK mg base 1 "_law_is_text" f__law_is_text := ⟨⟨_, _, _, G_law_is_text, m_law_is_text, k_law_is_text, b_law_is_text⟩⟩
    have G_law_plain_manner := ok__law_plain_manner (K := KK) F_law_plain_manner T C__law_one C__law_pairs C__law_draw C__law_some
    have C__law_plain_manner : CalF l.prog w KK mg base 3 "_law_plain_manner" f__law_plain_manner := ⟨⟨_, _, _, G_law_plain_manner, m_law_plain_manner, k_law_plain_manner, b_law_plain_manner⟩⟩
    have Gare_letters := ok_are_letters (K := KK) Fare_letters T C_ascends
    have C_are_letters : CalF l.prog w KK mg base 2 "are_letters" f_are_letters := ⟨⟨_, _, _, Gare_letters, mare_letters, kare_letters, bare_letters⟩⟩
    have Gare_pairs := ok_are_pairs (K := KK) Fare_pairs T C_is_row C_ascends
    have C_are_pairs : CalF l.prog w KK mg base 2 "are_pairs" f_are_pairs := ⟨⟨_, _, _, Gare_pairs, mare_pairs, kare_pairs, bare_pairs⟩⟩
    have Gis_within := ok_is_within (K := KK) Fis_within T C_is_integer
    have C_is_within : CalF l.prog w KK mg base 2 "is_within" f_is_within := ⟨⟨_, _, _, Gis_within, mis_within, kis_within, bis_within⟩⟩
    have GManner_init := ok_Manner_init (K := KK) FManner_init T C_are_letters C_are_pairs C_led_from
    have M_Manner_3 : MkP l.prog w KK mg base 3 "Manner" 5 3 [] [.arg 0, .arg 1, .arg 2] f_Manner_init := ⟨⟨_, _, _, GManner_init, PySem.W.mg_of X G qManner, mkB_ok h_Mannermk, ⟨fun s us ws _ h1 h2 => match us, ws, h1, h2 with | [_, _, _, _], [], _, _ => .of_eq rfl⟩, plOk_args [0, 1, 2]⟩⟩
    have GManner_texts := ok_Manner_texts (K := KK) FManner_texts T C_is_within N_Manner_next_to_1
    have N_Manner_texts_0_many : MeP l.prog w KK mg base 3 [5] "texts" 0 ["many"] [.arg 0, .arg 1] f_Manner_texts := ⟨⟨_, _, _, GManner_texts, (List.forall_mem_cons.mpr ⟨⟨(insB_ok h_Mannerins).cl, metB_ok h_Mannermetexts⟩, List.forall_mem_nil _⟩), ⟨fun s us ws _ h1 h2 => match us, ws, h1, h2 with | [_], [_], _, _ => .of_eq rfl⟩, plOk_args [0, 1]⟩⟩
    have N_Manner_texts_1 : MeP l.prog w KK mg base 3 [5] "texts" 1 [] [.arg 0, .arg 1] f_Manner_texts := ⟨⟨_, _, _, GManner_texts, (List.forall_mem_cons.mpr ⟨⟨(insB_ok h_Mannerins).cl, metB_ok h_Mannermetexts⟩, List.forall_mem_nil _⟩), ⟨fun s us ws _ h1 h2 => match us, ws, h1, h2 with | [_, _], [], _, _ => .of_eq rfl⟩, plOk_args [0, 1]⟩⟩
    have G_law_manner := ok__law_manner (K := KK) F_law_manner T M_Manner_3
    have C__law_manner : CalF l.prog w KK mg base 5 "_law_manner" f__law_manner := ⟨⟨_, _, _, G_law_manner, m_law_manner, k_law_manner, b_law_manner⟩⟩
    exact ok_law (K := KK) (Pt := Plaw) (tb := [(Plaw, lamQ "law" (defScope (top 30)))]) ⟨⟨oclaw, kVlaw, dclaw, pmlaw, ctlaw, odlaw, anlaw, sllaw, rfl, llaw, ilaw⟩⟩ T F_law_well D m_law_well b_law_well (TB (claw, Plaw) (.head _)) (.head _) (List.forall_mem_cons.mpr ⟨fun _ => rfl, List.forall_mem_nil _⟩) k07_says C__law_order C__law_draw C__law_plain_manner C__law_manner C__law_is_text N_Manner_texts_0_many N_Manner_texts_1 N_Manner_has_1 C__law_one N_Manner_has_0_text L__law_word M_Manner_3
end K07

open PySem PySem.W PyProof.Rows in
set_option maxRecDepth 100000 in
set_option maxHeartbeats 0 in
theorem PySem.Challenge.cw_followface_k07_texts_of_manners_holds : PySem.Challenge.rw_followface_k07_texts_of_manners.Holds := by
  w_on; o_law; k_head; (case hw => w_witness2)
  k_fill
  refine Gd.walk_ofGT (l := PySem.Challenge.rw_followface_k07_texts_of_manners) (n := 63) (k := 6) (x := "script") rfl (by decide) rfl ⟨⟨rfl, by decide, by decide⟩, rfl⟩ (fun w h Y => PySem.W.km_in_of Y) ?F
  case F =>
    intro w mg fa h KX0 KX G hmg
    refine' K07.all_mk KX G hmg ?qBadManner ?qBadNumber ?qTooMany ?qManner ?qPartError ?zall ?zbool ?zint ?zisinstance ?zlen ?zlist ?zrange ?zrepr ?zset ?zsorted ?zstr ?zsum ?ztuple ?zzip ?zabs ?g_law_well ?l_law_well ?i_law_well ?k_law_well ?g_law_draw ?l_law_draw ?i_law_draw ?k_law_draw ?g_law_one ?l_law_one ?i_law_one ?k_law_one ?g_law_pairs ?l_law_pairs ?i_law_pairs ?k_law_pairs ?g_law_some ?l_law_some ?i_law_some ?k_law_some ?g_law_plain_manner ?l_law_plain_manner ?i_law_plain_manner ?k_law_plain_manner ?gled_from ?lled_from ?iled_from ?kled_from ?gascends ?lascends ?iascends ?kascends ?gare_letters ?lare_letters ?iare_letters ?kare_letters ?gis_row ?lis_row ?iis_row ?kis_row ?gare_pairs ?lare_pairs ?iare_pairs ?kare_pairs ?gManner_init ?lManner_init ?iManner_init ?kManner_init ?gis_integer ?lis_integer ?iis_integer ?kis_integer ?gis_within ?lis_within ?iis_within ?kis_within ?gManner_next_to ?lManner_next_to ?iManner_next_to ?kManner_next_to ?gManner_texts ?lManner_texts ?iManner_texts ?kManner_texts ?g_law_manner ?l_law_manner ?i_law_manner ?k_law_manner ?g_law_word ?l_law_word ?i_law_word ?k_law_word ?g_law_order ?l_law_order ?i_law_order ?k_law_order ?gManner_has ?lManner_has ?iManner_has ?kManner_has ?g_law_is_text ?l_law_is_text ?i_law_is_text ?k_law_is_text ?glaw ?llaw ?ilaw ?klaw ?olaw ?vlaw ?wLETTERS ?wMOST_LONG ?wMOST_TEXTS ?iP ?lP ?cP ?oP ?vP ?eP ?mP ?iM ?lM ?cM ?oM ?vM ?eM ?mM ?opq ?topx ?sup ?Tlaw ?hck
    (case qBadManner => k_is)
    (case qBadNumber => k_is)
    (case qTooMany => k_is)
    (case qManner => k_is)
    (case qPartError => k_is)
    (case zall => k_is)
    (case zbool => k_is)
    (case zint => k_is)
    (case zisinstance => k_is)
    (case zlen => k_is)
    (case zlist => k_is)
    (case zrange => k_is)
    (case zrepr => k_is)
    (case zset => k_is)
    (case zsorted => k_is)
    (case zstr => k_is)
    (case zsum => k_is)
    (case ztuple => k_is)
    (case zzip => k_is)
    (case zabs => k_is)
    (case g_law_well => k_is)
    (case l_law_well => k_is)
    (case i_law_well => k_is)
    (case k_law_well => k_is)
    (case g_law_draw => k_is)
    (case l_law_draw => k_is)
    (case i_law_draw => k_is)
    (case k_law_draw => k_is)
    (case g_law_one => k_is)
    (case l_law_one => k_is)
    (case i_law_one => k_is)
    (case k_law_one => k_is)
    (case g_law_pairs => k_is)
    (case l_law_pairs => k_is)
    (case i_law_pairs => k_is)
    (case k_law_pairs => k_is)
    (case g_law_some => k_is)
    (case l_law_some => k_is)
    (case i_law_some => k_is)
    (case k_law_some => k_is)
    (case g_law_plain_manner => k_is)
    (case l_law_plain_manner => k_is)
    (case i_law_plain_manner => k_is)
    (case k_law_plain_manner => k_is)
    (case gled_from => k_is)
    (case lled_from => k_is)
    (case iled_from => k_is)
    (case kled_from => k_is)
    (case gascends => k_is)
    (case lascends => k_is)
    (case iascends => k_is)
    (case kascends => k_is)
    (case gare_letters => k_is)
    (case lare_letters => k_is)
    (case iare_letters => k_is)
    (case kare_letters => k_is)
    (case gis_row => k_is)
    (case lis_row => k_is)
    (case iis_row => k_is)
    (case kis_row => k_is)
    (case gare_pairs => k_is)
    (case lare_pairs => k_is)
    (case iare_pairs => k_is)
    (case kare_pairs => k_is)
    (case gManner_init => k_is)
    (case lManner_init => k_is)
    (case iManner_init => k_is)
    (case kManner_init => k_is)
    (case gis_integer => k_is)
    (case lis_integer => k_is)
    (case iis_integer => k_is)
    (case kis_integer => k_is)
    (case gis_within => k_is)
    (case lis_within => k_is)
    (case iis_within => k_is)
    (case kis_within => k_is)
    (case gManner_next_to => k_is)
    (case lManner_next_to => k_is)
    (case iManner_next_to => k_is)
    (case kManner_next_to => k_is)
    (case gManner_texts => k_is)
    (case lManner_texts => k_is)
    (case iManner_texts => k_is)
    (case kManner_texts => k_is)
    (case g_law_manner => k_is)
    (case l_law_manner => k_is)
    (case i_law_manner => k_is)
    (case k_law_manner => k_is)
    (case g_law_word => k_is)
    (case l_law_word => k_is)
    (case i_law_word => k_is)
    (case k_law_word => k_is)
    (case g_law_order => k_is)
    (case l_law_order => k_is)
    (case i_law_order => k_is)
    (case k_law_order => k_is)
    (case gManner_has => k_is)
    (case lManner_has => k_is)
    (case iManner_has => k_is)
    (case kManner_has => k_is)
    (case g_law_is_text => k_is)
    (case l_law_is_text => k_is)
    (case i_law_is_text => k_is)
    (case k_law_is_text => k_is)
    (case glaw => k_is)
    (case llaw => k_is)
    (case ilaw => k_is)
    (case klaw => k_is)
    (case olaw => k_is)
    (case vlaw => exact rfl)
    (case wLETTERS => k_is)
    (case wMOST_LONG => k_is)
    (case wMOST_TEXTS => k_is)
    (case iP => k_is)
    (case lP => k_is)
    (case cP => k_is)
    (case oP => k_is)
    (case vP => exact rfl)
    (case eP => first | exact rfl | decide +kernel | kernel_rfl)
    (case mP => k_is)
    (case iM => k_is)
    (case lM => k_is)
    (case cM => k_is)
    (case oM => k_is)
    (case vM => exact rfl)
    (case eM => first | exact rfl | decide +kernel | kernel_rfl)
    (case mM => k_is)
    (case opq => k_is)
    (case topx => first | exact rfl | decide +kernel | kernel_rfl)
    (case sup => k_is)
    (case Tlaw => exact PySem.W.km_tabs_of KX0 _ (by first | k_mem | simp))
    (case hck => kernel_rfl)
