import PyProof.Rows.All
import Wide.All
import OpenK.AllK
import Wide.FinOn
import KE.KExcSuper
import HandS.Base
import HandS.Call
import HandS.Ends
import HandS.Exc
import HandS.ExcInit
import HandS.Nested
import HandS.MakeKw
import HandS.Defaults
import KE.KExcIs
import HandS.ExcValue
import HandS.ForMost
import HandS.Codes
import PySem.Challenge.RW_followface_k00_errors_and_their_fields
import HandS.Iter
import HandS.NoneIn
import HandS.Walk
import PyProof.ReprRoads
set_option Elab.async false
set_option linter.all false
set_option maxRecDepth 100000
set_option maxHeartbeats 4000000
/-! An own exception's __init__ that says super().__init__(..) and stores its parameters. -/
namespace Fx
open PySem PySem.W PySem.Calls PyProof.Rows PySem.HandSPX
/-! ### the bound ValueError.__init__ called -/
section
variable {prog : Program} {w : World} {A : Around} {E : Value → Shared → Prop} {h : Heap} {g : Array GenState} {d : Drawn} {t : Nat} {os : OsState}
variable {nm q : Str} {C N : Addr} {bs bm : List Value} {hdct : Bool} {sn : List Str} {sub : List Value} {ab : Bool} {col : Option Bool} {dd : Option Addr} {k0 k1 k2 k3 k5 : Option Value}
theorem call_ve {u e t0 : Addr} {rest : List Value} {Q : Value → Shared → Prop}
    (hC : h.get? C = some (excClassObj nm q C N bs bm hdct sn sub ab col dd k0 k1 k2 k3 k5 "ValueError.__new__")) (he : h.get? e = some (excO C t0)) (hu : h.get? u = some (kxs_mw "ValueError.__init__" e)) (hrest : rest.length ≤ sizeLine)
    (hq : ∀ h' t1, (∀ b o, b ≠ e → h.get? b = some o → h'.get? b = some o) → h'.get? e = some (excO C t1) → Q .none ⟨h', g, d, t, os⟩) :
    wpAny (model prog w) A (call (.ref u) rest) Q E ⟨h, g, d, t, os⟩ := by
  refine wpAny_call (codeAny_of_tree ?_)
  show wpAny _ A.in1 (callAny (.ref u) ⟨rest, []⟩) _ _ _
  simp only [callAny]
  refine wpAny_bind (wpAny_load hu ?_)
  simp only [kxs_mw, show (Value.type "method-wrapper" == Value.type "method" || Value.type "method-wrapper" == Value.type "builtin_function_or_method" || Value.type "method-wrapper" == Value.type "method-wrapper") = true by decide, if_true]
  refine KFB.if_so (by decide) ?_
  refine wpAny_bind (check_bound_init F.excBase_ValueError.toExcCallFacts hC he rfl ?_)
  refine wpAny_bind (wpAny_pure (wpAny_pure ?_))
  refine ⟨Code.quiet_builtin _ (by decide +kernel), codeAny_builtin F.excBase_ValueError.initEntry ?_⟩
  rw [Around.under_plainId F.excBase_ValueError.init.plain _]
  wp_walk
  refine hq _ h.objs.size (fun b o hb ho => ?_) ?_
  · rw [Heap.get?_update_other _ _ (Ne.symm hb)]
    exact Heap.get?_push_of_some _ ho
  · rw [Heap.get?_update_self _ (Heap.get?_push_of_some _ he) rfl]
    rfl
end
end Fx
namespace Fx
open PySem PySem.Spec PyProof.Rows L2 NdefX
/-- what the written part says of an __init__ over super() -/
structure SupTxt (P : Program) (K : PySem.W.Frag) (mg : Str → Option Value) (fI : Addr) (fd : FuncData) (F : NF) (cc D : Addr) : Prop where
  cl : F.cl = [(("__class__" : Str), cc)]
  fn : ∃ (oc : Value) (od : Option Addr) (kV doc pm : Value) (an : Option Addr) (ct : Value) (osl : Array (Option Value)), fd = PySem.W.fnX F.name F.qual F.params F.body F.scope F.cl .none kV doc pm an (.ref F.c) ct ∧ K.lookup fI = some ⟨oc, od, .func fd, osl⟩
  cd : PySem.W.codeIn K (.ref F.c) F.qual = true
  code : ∃ (ccl : Value) (cdd : Option Addr) (vs : Array Value) (ccs : Array (Option Value)) (file : Str) (tf : Tok), K.lookup F.c = some ⟨ccl, cdd, .fields vs, ccs⟩ ∧ vs[2]? = some (.str file tf) ∧ ((P.main.file : Str) == file) = true
  cell : ∃ (cl : Value) (cld : Option Addr) (csl : Array (Option Value)), K.lookup cc = some ⟨cl, cld, .cell (some (.ref D)), csl⟩
  cls : ∃ cdD, PySem.W.clsIn K D = some cdD
  opq : PySem.W.nsIn K cStatics "thirdparty.any" = some none
  top : (P.main.scope.names.lookup ("super" : Str)).isSome = false
  sup : mg "super" = none
/-- .. of an exception class whose __init__ (that of D) it is -/
structure XC (K : PySem.W.Frag) (C D fI : Addr) : Prop extends OexC K C where
  iC : PySem.W.findIn K (.ref C) "__init__" = some (some (.ref fI))
  sub : PySem.W.mroIn K C (.ref D) = some true
  sup : PySem.W.ks_superIn K C D "__init__" = some (some (.builtin "ValueError.__init__"))
  ve : PySem.W.subIn K (.ref C) (.type "ValueError") = some true
def tSup (K : PySem.W.Frag) (D fI : Addr) (i : Nat) (ta : TA) (t : TS) : TS := fun De σ H => ∃ a C, σ[i]? = some (some (.ref a)) ∧ XC K C D fI ∧ H a = some (exo a C none) ∧
  ta σ H fun ws H1 => ws.length ≤ 1000 ∧ H1 a = some (exo a C none) ∧ t De σ H1
theorem fn_super {CX : CXT} {P : Program} {w : World} {K : PySem.W.Frag} {mg : Str → Option Value} {base : Heap} {k : Nat} {fI cc D : Addr} {fd : FuncData} {F : NF} {N ps : List Str} {sp : Sp} {ar : Arg} {e : Expr} {es : List Expr} {rest : List Stmt} {p0 p1 p2 p3 p4 : Pos}
    (T : SupTxt P K mg fI fd F cc D) (S : NScope N ps ["__class__"] F.scope) (har : (F.params.posonlyargs ++ F.params.args).head? = some ar) (h0 : ps[0]? = some ar.arg) (hsu : F.scope.names.lookup ("super" : Str) = some .globalImplicit)
    (hB : F.body = .Expr (.Call (.Attribute (.Call (.Name "super" p0) [] [] p1) "__init__" p2) (e :: es) [] p3) p4 :: rest)
    (len : ∀ vs H Q E, sp vs H Q E → vs.length = ps.length)
    (hbody : ∀ (A : Around) (outer : List Env) (s : Shared) (H : Hp) (vs : List V) (Q : VK) (E : XK), Room k (A.deeper (envF F fI s.heap.objs.size)) → sp vs H Q E →
      ∃ ta t, PA (ncx CX P w K mg base N F fI A outer s H E) (e :: es) ta ∧ PSs (ncx CX P w K mg base N F fI A outer s H E) rest t ∧ tSup K D fI 0 ta t { nx := fun _ H' => Q .non H', rt := Q } (startF N vs [some (.ref D)]) H)
    (hpl : ∀ (L : Addr), swapsWith (.Call (.Attribute (.Call (.Name "super" p0) [] [] p1) "__init__" p2) (e :: es) [] p3) none p4.line (envF F fI L) = pure false)
    (hev : ∀ (L : Addr), eval (.Call (.Attribute (.Call (.Name "super" p0) [] [] p1) "__init__" p2) (e :: es) [] p3) (envF F fI L) = (do
      let ov ← attributeBase (.Call (.Name "super" p0) [] [] p1) "__init__" (envF F fI L) (eval (.Call (.Name "super" p0) [] [] p1) (envF F fI L))
      standAt p2.atName
      let (f, first) ← holding [ov] (getMethod ov "__init__" (pure false))
      callWith p3 f first (backTo p3 (starEach (e :: es) (envF F fI L))) []))
    (hst : ∀ (L : Addr), starEach (e :: es) (envF F fI L) = (false, eval e (envF F fI L)) :: starEach es (envF F fI L))
    (hst2 : ∀ (L : Addr), (backTo p3 (starEach es (envF F fI L))).any (·.1) = false) :
    FnOk P w K mg base CX (k + 1) fI fd ps sp := by
  refine ⟨len, fun A outer s H args us vs Q E hr e0 hb r hsp => ?_⟩
  have hl := len _ _ _ _ hsp
  have KX : K.In s.heap := e0.mod.kin.keeps fun b o e => (e0.bs b o e).1
  have lim : s.heap.NoLimit := e0.mod.nolimit.keeps fun b o e => (e0.bs b o e).1
  obtain ⟨oc, od, kV, doc, pm, an, ct, osl, rfl, lk⟩ := T.fn
  obtain ⟨cl, cld, csl, hcell⟩ := T.cell
  obtain ⟨ccl, cdd, vcs, ccs, file, tf, hcode, hvs, hfile⟩ := T.code
  obtain ⟨cdD, hD⟩ := T.cls
  have Hcc : H cc = none := by
    have q := (e0.mod.kin _ _ hcell)
    exact (e0.bs _ _ q).2
  have C0 : CellsAt F.cl ["__class__"] [some (.ref D)] s.heap H := by
    rw [T.cl]
    have look : ∀ {y : Str} {c : Addr}, List.lookup y [(("__class__" : Str), cc)] = some c → y = "__class__" ∧ c = cc := fun {y c} z => by
      by_cases hy : y = "__class__"
      · rw [hy] at z
        simp [List.lookup] at z
        exact ⟨hy, z.symm⟩
      · have hy' : (y == ("__class__" : Str)) = false := by simpa using hy
        simp [List.lookup, hy'] at z
    refine ⟨rfl, fun y c z => ?_, fun x y c z1 z2 => ?_, fun i y z => ?_⟩
    · obtain ⟨_, rfl⟩ := look z
      exact ⟨Hcc, _, ⟨_, KX _ _ hcell, rfl⟩⟩
    · exact (look z1).1.trans (look z2).1.symm
    · cases i with
      | zero =>
        have e : y = "__class__" := by simpa using z.symm
        rw [e]
        refine ⟨cc, by simp [List.lookup], fun v hv => ?_⟩
        have ev : v = .ref D := by simpa using hv.symm
        subst ev
        exact ⟨_, rfl, ⟨_, KX _ _ hcell, rfl⟩⟩
      | succ i => simp at z
  refine ks_codeAny_call_defAt (body := F.body) (binds := ps.zip us) hr.depth (KX _ _ lk) rfl lim (PySem.W.codeRec_of KX T.cd) rfl hb S.nocell (fun ⟨n, _⟩ hy => S.par n (List.of_mem_zip hy).1) (fun h₁ hns kp => ?_) S.co S.gen S.kind
  show PySem.wpAt (model P w) (A.deeper (envF F fI s.heap.objs.size)) (.func F.body (envF F fI s.heap.objs.size)) (execs F.body (envF F fI s.heap.objs.size)) _ _ _
  obtain ⟨ta, t, hpa, hps, hq⟩ := hbody A outer s H vs Q E (hr.deeper _) hsp
  have I : Inv (ncx CX P w K mg base N F fI A outer s H E) [] (startF N vs [some (.ref D)]) H { s with heap := h₁, toks := s.toks + (ps.zip us).length } := inv_startN S hr.hd e0 hl r C0 hns kp
  obtain ⟨a, C, hs0, TC, ha, hq⟩ := hq
  obtain ⟨nm, q, N', bs, bm, sn, sub, ab, col, dd, k0, k1, k2, k3, k5, hC, hbm⟩ := TC.cls
  obtain ⟨t0, hobj⟩ := exo_at I.hok ha
  have K1 : K.In h₁ := KX.keeps kp
  obtain ⟨mb, hmb, hbt⟩ := e0.mod.blt
  have bk : ∀ b o, base.get? b = some o → h₁.get? b = some o := fun b o e => kp b o (e0.bs b o e).1
  obtain ⟨oD, hD1, hD2⟩ : ∃ oD, h₁.get? D = some oD ∧ oD.data = .cls cdD := by
    unfold PySem.W.clsIn at hD
    split at hD
    · rename_i c d cd' sl' ho
      cases hD
      exact ⟨_, K1 _ _ ho, rfl⟩
    · cases hD
  have hself : (fun y => (ps.zip us).reverse.lookup y) ar.arg = some (.ref a) := by
    have hN0 : N[0]? = some ar.arg := by
      have q : (ps ++ [("__class__" : Str)])[0]? = some ar.arg := by
        rw [List.getElem?_append_left (by cases ps with | nil => simp at h0 | cons _ _ => simp)]
        exact h0
      rw [← S.pre, List.getElem?_take_of_lt (by cases ps with | nil => simp at h0 | cons _ _ => simp)] at q
      exact q
    have ndP : ps.Nodup := by
      have q := S.nd.sublist (List.take_sublist (ps.length + [("__class__" : Str)].length) N)
      rw [S.pre] at q
      exact (List.nodup_append.mp q).1
    have hv0 : vs[0]? = some (.ref a) := by
      unfold startF at hs0
      have hvl : 0 < vs.length := by
        rw [hl]
        cases ps with | nil => simp at h0 | cons _ _ => simp
      rw [List.getElem?_append_left (by simpa using hvl), List.getElem?_map] at hs0
      cases z : vs[0]? with
      | none => rw [z] at hs0; cases hs0
      | some v => rw [z] at hs0; cases hs0; rfl
    obtain ⟨u, hu, ru⟩ := r.get hv0
    cases ru
    exact zip_look ndP h0 hu
  rw [hB]
  refine PySem.ks_wpAt_mono (PySem.ks_wpAt_execs_cons (Q := SP (ncx CX P w K mg base N F fI A outer s H E) [] { nx := fun _ H' => Q .non H', rt := Q }) (PySem.ks_wpAt_Expr_any (PySem.ks_wpAt_MethodCall (pl := pure false) ?_ (hev _)) I.quiet (hpl _))) (fun fl s' hs => ?_) fun _ _ x => x
  · refine PySem.ks_wpAt_super_base (fd := PySem.W.fnX F.name F.qual F.params F.body F.scope F.cl .none kV doc pm an (.ref F.c) ct) hsu (S.frk _ List.mem_cons_self) (by decide) rfl (K1 _ _ lk) rfl har rfl (K1 _ _ hcode) rfl hvs hfile T.top ?_
    refine PySem.W.ks_loadName_global S.kind hsu (Calls.loadGlobal_builtin (e0.mod.glob.keeps bk) T.sup (hmb.keeps bk) ((hbt _ (by decide)).trans (by kernel_rfl)) ⟨rfl, ?_⟩)
    refine wpAny_loadName_free S.kind (S.frk _ List.mem_cons_self) (c := cc) (v := .ref D) (by show F.cl.lookup _ = _; rw [T.cl]; simp [List.lookup]) ⟨_, K1 _ _ hcell, rfl⟩ ?_
    refine wpAny_loadName_local S.kind (S.par _ (List.mem_of_getElem? h0)) hns hself ?_
    refine PySem.ks_wpAny_isType_cls hD1 hD2 ⟨rfl, ?_⟩
    refine PySem.ks_wpAny_call_super hD1 hD2 hobj rfl (fun c z => by cases z) (PySem.W.looks_mroIn K1 TC.sub) (fun h2 e2 k2 => ?_)
    have K2 : K.In h2 := K1.keeps k2
    have hI : PySem.W.Looks (model P w) h2 (isInstance (.ref a) (.type "ValueError")) true := (PySem.W.InstAt.type (M := model P w) (h := h2) (x := a) (ox := PySem.HandSPX.excO C t0) (C := C) (od := none) ⟨k2 _ _ hobj, rfl, rfl, trivial⟩).andThen (PySem.W.looks_subIn K2 TC.ve)
    obtain ⟨cdC, hcC⟩ : ∃ cdC, PySem.W.clsIn K C = some cdC := ⟨_, by unfold PySem.W.clsIn; rw [hC]⟩
    have aC : a ≠ C := fun z => by
      have q1 := K1 _ _ hC
      rw [← z] at q1
      have q2 := hobj.symm.trans q1
      cases q2
    have hsup := TC.sup
    unfold PySem.W.ks_superIn at hsup
    rw [hcC] at hsup
    refine PySem.W.kxs_getMethod PySem.W.kxs_ValueError e2 (PySem.W.looks_opaque K2 T.opq) (l₀ := cdC.mro) ?_ rfl K2 hsup hI aC (by decide) ?_
    · exact fun A Q E s k q => wpAny_bind ((PySem.W.looks_clsIn K2 hcC) A _ E s k (wpAny_pure q))
    have I2 : Inv (ncx CX P w K mg base N F fI A outer s H E) [] (startF N vs [some (.ref D)]) H { s with heap := h2, toks := s.toks + (ps.zip us).length } := I.kept (h' := h2) (t' := s.toks + (ps.zip us).length) k2
    have hmw : (h2.push (PySem.W.kxs_mw "ValueError.__init__" a)).get? h2.objs.size = some (PySem.W.kxs_mw "ValueError.__init__" a) := Heap.get?_push_at rfl rfl
    have I3 : Inv (ncx CX P w K mg base N F fI A outer s H E) [] (startF N vs [some (.ref D)]) H { s with heap := h2.push (PySem.W.kxs_mw "ValueError.__init__" a), toks := s.toks + (ps.zip us).length + 1 } :=
      I2.kept (h' := h2.push (PySem.W.kxs_mw "ValueError.__init__" a)) (t' := s.toks + (ps.zip us).length + 1) fun b o q => Heap.get?_push_of_some _ q
    have I3p : Inv (ncx CX P w K mg base N F fI A outer s H E) [(h2.objs.size, PySem.W.kxs_mw "ValueError.__init__" a)] (startF N vs [some (.ref D)]) H { s with heap := h2.push (PySem.W.kxs_mw "ValueError.__init__" a), toks := s.toks + (ps.zip us).length + 1 } := by
      refine I3.pins_of fun p hp => ?_
      have hp' : p ∈ [(h2.objs.size, PySem.W.kxs_mw "ValueError.__init__" a)] := hp
      rw [List.mem_singleton] at hp'
      subst hp'
      exact ⟨hmw, I2.hok.fresh (Nat.le_refl _), Nat.ne_of_gt I2.lt, I2.nofs (Nat.le_refl _), fun v z => by cases z⟩
    refine PySem.W.kxs_callWith (i := "ValueError.__init__") (x := a) (by rw [hst]; exact hst2 _) ?_
    rw [hst]
    refine Calls.evalArgs_plain ?_
    have hrun := hpa.run p3 _ _ _ H _ I3p hq
    rw [show starEach (e :: es) (ncx CX P w K mg base N F fI A outer s H E).env = (false, eval e (envF F fI s.heap.objs.size)) :: starEach es (envF F fI s.heap.objs.size) from hst _] at hrun
    refine thn hrun fun us4 s4 ⟨ws, H4, I4, r4, hz, ha4, hq4⟩ => ?_
    obtain ⟨hmw4, _⟩ := I4.pin (h2.objs.size, PySem.W.kxs_mw "ValueError.__init__" a) (List.mem_append_right _ (List.mem_singleton.mpr rfl))
    refine ⟨hmw4, ?_⟩
    show wpAny _ _ (call (.ref h2.objs.size) us4) _ _ _
    obtain ⟨t4, hobj4⟩ := exo_at I4.hok ha4
    have hzl : us4.length ≤ sizeLine := by
      rw [← Paired.length r4, sizeLine_eq]
      omega
    have KC := I4.kIn _ _ hC
    obtain ⟨h4, g4, d4, tk4, os4⟩ := s4
    refine call_ve KC hobj4 hmw4 hzl fun h5 t5 k5 e5 => ?_
    have J := I4.write (t' := tk4) (x := a) (e := a) (o := exo a C none) (by rw [ha4]; exact True.intro) (.inl rfl) k5 ⟨_, e5⟩ (exo_ok e5)
    have eu : upd H4 a (exo a C none) = H4 := by
      funext b
      by_cases hb : b = a
      · rw [hb, upd_same, ha4]
      · rw [upd_ne hb]
    rw [eu] at J
    have J' : Inv (ncx CX P w K mg base N F fI A outer s H E) [] (startF N vs [some (.ref D)]) H4 ⟨h5, g4, d4, tk4, os4⟩ := J.pins_of fun p hp => absurd hp (by simp)
    exact PySem.wpAt_of_wpAny (hps.run [] _ _ _ _ J' hq4)
  · have fin : ∀ {σ' : L2.St} {H' : Hp} {v : V} {u : Value}, Inv (ncx CX P w K mg base N F fI A outer s H E) [] σ' H' s' → L2.RelV v u → Q v H' → CE outer P w H s Q u s' :=
      fun {σ' H' v u} J rv q => ⟨v, H', J.os, J.bare, J.base, J.hok, rv, q⟩
    cases fl with
    | ret u =>
      obtain ⟨v, σ', H', J, rv, q⟩ := hs
      exact fin J rv q
    | next =>
      obtain ⟨σ', H', J, q⟩ := hs
      exact fin (v := V.non) (u := Value.none) J rfl q
    | brk =>
      obtain ⟨_, _, _, q⟩ := hs
      exact False.elim q
    | cont =>
      obtain ⟨_, _, _, q⟩ := hs
      exact False.elim q
end Fx

/-! An own exception as a value: made (by place, by name), its attributes read, isinstance. -/
namespace Fx
open PySem PySem.W PySem.Calls PyProof.Rows PySem.HandSPX
section
variable {M : Model} {A : Around} {E : Value → Shared → Prop} {h : Heap} {g : Array GenState} {d : Drawn} {t : Nat} {os : OsState}
variable {nm q : Str} {C N : Addr} {bs bm bmB : List Value} {hdct : Bool} {sn : List Str} {sub : List Value} {ab : Bool} {col : Option Bool} {dd : Option Addr} {k0 k1 k2 k3 k5 : Option Value} {B newId initId : String}
theorem check_new_kw (F : ExcBaseFacts B newId initId bmB) (hT : ∀ X : String, bm.contains (.type X) = bmB.contains (.type X)) {rest : List Value} {kw : List (Str × Value)} {Q : Unit → Shared → Prop}
    (hC : h.get? C = some (excClassObj nm q C N bs bm hdct sn sub ab col dd k0 k1 k2 k3 k5 newId)) (hq : Q () ⟨h, g, d, t, os⟩) : wpAny M A (checkBuiltinCall newId ⟨.ref C :: rest, kw⟩) Q E ⟨h, g, d, t, os⟩ := by
  have hcont : (Value.ref C :: bm).contains (.type B) = true := by rw [List.contains_cons, hT, F.hasB, Bool.or_true]
  have hstar := F.noStar
  simp only [checkBuiltinCall, F.newKind, F.newSplit, F.newRow]
  repeat (first | refine wpAny_loadPart_at hC ?_ | (refine wpAny_isSubtype_exc hC ?_; rw [hcont]) | refine wpAny_staticBase_exc hC ?_ | refine wpAny_madeBy_exc hC ?_ | simp only [bne_self_eq_false, Bool.false_eq_true, if_false] | wp_step)
  exact hq
end
section
variable {prog : Program} {w : World} {A : Around} {E : Value → Shared → Prop} {R : Result → Shared → Prop} {h : Heap} {g : Array GenState} {d : Drawn} {t : Nat} {os : OsState}
variable {nm q : Str} {C N : Addr} {bs bm bmB : List Value} {hdct : Bool} {sn : List Str} {sub : List Value} {ab : Bool} {col : Option Bool} {dd : Option Addr} {k0 k1 k2 k3 k5 : Option Value} {B newId initId : String}
theorem new_kw (F : ExcBaseFacts B newId initId bmB) (hT : ∀ X : String, bm.contains (.type X) = bmB.contains (.type X)) {rest : List Value} {kw : List (Str × Value)}
    (hC : h.get? C = some (excClassObj nm q C N bs bm hdct sn sub ab col dd k0 k1 k2 k3 k5 newId))
    (hq : R (.ok (.ret (.ref (h.objs.size + 1)))) ⟨(h.push { cls := .type "tuple", data := .seq rest.toArray }).push
      { cls := .ref C, data := .fields #[.ref h.objs.size, .none, .none, .none, .bool false, .none] }, g, d, t, os⟩) (hrest : rest.length ≤ sizeLine) :
    codeAny (model prog w) A (.builtin newId ⟨.ref C :: rest, kw⟩) R ⟨h, g, d, t, os⟩ := by
  have hends := F.ends
  have hcB : (Value.ref C :: bm).contains (.type B) = true := by rw [List.contains_cons, hT, F.hasB, Bool.or_true]
  have hcA : (Value.ref C :: bm).contains (.type "AttributeError") = false := by rw [List.contains_cons, hT, F.noAttr]; rfl
  have hcN : (Value.ref C :: bm).contains (.type "NameError") = false := by rw [List.contains_cons, hT, F.noName]; rfl
  refine codeAny_builtinAt F.entry ?_
  unfold Builtin.«BaseException.__new__»
  refine PySem.wpAt_bind ?_
  show PySem.wpAt _ _ _ (stack >>= _) _ _ _
  refine PySem.wpAt_bind (PySem.wpAt_stack fun p below => PySem.wpAt_of_wpAny ?_)
  wp_walk
  refine PySem.wpAt_of_wpAny ?_
  rw [F.owner]
  repeat (first | with_reducible refine wpAny_madeHere_exc F.canon hC ?_ | with_reducible refine wpAny_loadPart_at hC ?_ | (with_reducible refine wpAny_isSubtype_exc hC ?_; first | rw [hcB] | rw [hcA] | rw [hcN]) | wp_step)
  show R _ _
  rw [Heap.size_push]
  exact hq

theorem type_call_kw (F : ExcBaseFacts B newId initId bmB) (hT : ∀ X : String, bm.contains (.type X) = bmB.contains (.type X)) {rest : List Value} {kw : List (Str × Value)} {fI : Addr} {Q : Fin → Shared → Prop}
    (hC : h.get? C = some (excClassObj nm q C N bs bm hdct sn sub ab col dd k0 k1 k2 k3 k5 newId))
    (hi : W.Looks (model prog w) h (typeLookup (.ref C) "__init__") (some (.ref fI))) (hb : ∀ self, W.Looks (model prog w) h (bindSpecial (.ref fI) self) (.ref fI, [self])) (hrest : rest.length ≤ sizeLine)
    (hq : codeAny (model prog w) A (.call (.ref fI) ⟨.ref (h.objs.size + 1) :: rest, kw⟩)
      (fun r s' => match r with | .ok (.ret v) => v = .none ∧ Q (.done (.ret (.ref (h.objs.size + 1)))) s' | .ok _ => False | .error e => E e s')
      ⟨(h.push (W.kdv_tup rest)).push (excO C h.objs.size), g, d, t, os⟩) :
    wpAny (model prog w) A (Builtin.«type.__call__» ⟨.ref C :: rest, kw⟩) Q E ⟨h, g, d, t, os⟩ := by
  repeat (first | with_reducible refine wpAny_loadPart_at hC ?_ | with_reducible refine wpAny_madeBy_exc hC ?_ | wp_step)
  refine codeAny_call_builtin_code (Code.quiet_builtin _ F.quiet) (check_new_kw F hT hC ?_)
  refine new_kw F hT hC ?_ hrest
  show wpAny _ _ _ _ _ _
  have k : ∀ b o, h.get? b = some o → ((h.push (W.kdv_tup rest)).push (excO C h.objs.size)).get? b = some o := fun b o e => Heap.get?_push_of_some _ (Heap.get?_push_of_some _ e)
  have hC₁ := k _ _ hC
  have hget : ((h.push (W.kdv_tup rest)).push (excO C h.objs.size)).get? (h.objs.size + 1) = some (excO C h.objs.size) := by heap_get
  have hcC : (Value.ref C :: bm).contains (.ref C) = true := by simp
  have i1 := hi.keeps k
  have b1 := (hb (.ref (h.objs.size + 1))).keeps k
  unfold isInstance
  repeat (first | with_reducible refine wpAny_loadPart_at hget ?_ | (with_reducible refine wpAny_isSubtype_exc hC₁ ?_; rw [hcC]) | wp_step)
  show wpAny _ _ (typeLookup (.ref C) _) _ _ _
  refine i1.at ?_
  refine wpAny_holding (wpAny_bind (b1.at ?_))
  refine wpAny_bind (wpAny_call (codeAny_mono hq fun r s' z => ?_))
  rcases r with e | (v | _ | _ | _) <;> first | exact z | exact z.elim | skip
  obtain ⟨rfl, z⟩ := z
  first
    | exact wpAny_pure (wpAny_pure z)
    | (wp_walk; exact z)
theorem call_kw (F : ExcBaseFacts B newId initId bmB) (hT : ∀ X : String, bm.contains (.type X) = bmB.contains (.type X)) {rest : List Value} {kw : List (Str × Value)} {fI : Addr}
    (hC : h.get? C = some (excClassObj nm q C N bs bm hdct sn sub ab col dd k0 k1 k2 k3 k5 newId))
    (hi : W.Looks (model prog w) h (typeLookup (.ref C) "__init__") (some (.ref fI))) (hb : ∀ self, W.Looks (model prog w) h (bindSpecial (.ref fI) self) (.ref fI, [self])) (hrest : rest.length ≤ sizeLine)
    (hq : codeAny (model prog w) (A.under (.builtin "type.__call__" ⟨.ref C :: rest, kw⟩)) (.call (.ref fI) ⟨.ref (h.objs.size + 1) :: rest, kw⟩) (W.InitBack (h.objs.size + 1) R)
      ⟨(h.push (W.kdv_tup rest)).push (excO C h.objs.size), g, d, t, os⟩) :
    codeAny (model prog w) A (.call (.ref C) ⟨rest, kw⟩) R ⟨h, g, d, t, os⟩ := by
  have f1 := tc_lookup
  have f2 := tc_bind (.ref C)
  have hTy : (⟨h, g, d, t, os⟩ : Shared).TypeIs (.ref C) "type" := ⟨_, hC, rfl⟩
  refine codeAny_of_tree ?_
  show wpAny _ _ (callAny (.ref C) _) _ _ _
  repeat (any_goals (first | assumption | with_reducible refine wpAny_loadPart_at hC ?_ | wp_step))
  refine ⟨rfl, ?_⟩
  refine codeAny_call_builtin_at (Code.quiet_builtin _ (by decide +kernel)) entry_typeCall (wpAny_check_type_call_sub hC (type_call_kw F hT hC hi hb hrest ?_))
  refine codeAny_mono hq fun r s' z => ?_
  rcases r with e | (v | _ | _ | _) <;> exact z
end
end Fx

/-! An own exception as a value over the layer. -/
namespace Fx
open PySem PySem.Spec PyProof.Rows L2
/-- C(e, .., k = v, ..) as a value: the exception at a and its dict are tracked -/
def tMkV (C : Addr) (n m : Nat) (sp : Sp) (gV : List V → List V → List V) (t tk : TA) : TE := fun σ H Q => t σ H fun vs H1 => tk σ H1 fun zs H2 => vs.length = n ∧ zs.length = m ∧ n ≤ 1000 ∧
  ∀ a, H2 a = none → sp (gV (.ref a :: vs) zs) (upd H2 a (exo a C none)) (fun v H3 => v = .non ∧ Q (.ref a) H3) (fun _ _ _ => False)
section
variable {X : Cx} {CX : CXT} {k n : Nat} {fI C : Addr} {fd : FuncData} {ps ks : List Str} {sp : Sp} {x : Str} {p pos : Pos} {e : Expr} {es : List Expr} {kws : List Keyword} {t tk : TA} {g : List Value → List Value → List Value} {gV : List V → List V → List V}
theorem run_exv {pins : List (Addr × Obj)} {σ : L2.St} {H1 : Hp} {s1 : Shared} {Q : VK} {us ws : List Value} {vs zs : List V} (T : OexC X.K C) (iC : PySem.W.findIn X.K (.ref C) "__init__" = some (some (.ref fI))) (tI : PySem.W.typeIn X.K (.ref fI) = some (.type "function"))
    (F1 : FnOk X.prog X.w X.K X.mg X.base CX k fI fd ps sp) (hr : Room (k + 1) X.A) (hb : KBn X.K fd ps (n + 1) ks g gV) (hx : Passes CX X (fun _ _ _ => False)) (I1 : Inv X pins σ H1 s1) (r : Vals vs us) (rz : Vals zs ws) (l1 : vs.length = n) (l2 : zs.length = ks.length) (hn1 : n ≤ 1000)
    (q1 : ∀ a, H1 a = none → sp (gV (.ref a :: vs) zs) (upd H1 a (exo a C none)) (fun v H3 => v = .non ∧ Q (.ref a) H3) (fun _ _ _ => False)) :
    wpAny (model X.prog X.w) X.A (call (.ref C) us (ks.zip ws)) (EP X pins σ Q) X.xe s1 := by
  obtain ⟨nm, q, N, bs, bm, sn, sub, ab, col, dd, k0, k1, k2, k3, k5, hC, hbm⟩ := T.cls
  obtain ⟨hp, g', dr, tok, os⟩ := s1
  have hsz : hp.objs.size ≤ hp.objs.size + 1 := Nat.le_succ _
  have hn : H1 (hp.objs.size + 1) = none := I1.hok.fresh hsz
  have hq := q1 (hp.objs.size + 1) hn
  have kk : ∀ b o, hp.get? b = some o → ((hp.push (PySem.W.kdv_tup us)).push (PySem.HandSPX.excO C hp.objs.size)).get? b = some o := fun b o e => Heap.get?_push_of_some _ (Heap.get?_push_of_some _ e)
  have hget : ((hp.push (PySem.W.kdv_tup us)).push (PySem.HandSPX.excO C hp.objs.size)).get? (hp.objs.size + 1) = some (PySem.HandSPX.excO C hp.objs.size) := by heap_get
  have I2 : Inv X pins σ (upd H1 (hp.objs.size + 1) (exo (hp.objs.size + 1) C none)) ⟨(hp.push (PySem.W.kdv_tup us)).push (PySem.HandSPX.excO C hp.objs.size), g', dr, tok, os⟩ :=
    I1.laid (t' := tok) (a := hp.objs.size + 1) (o := exo (hp.objs.size + 1) C none) (h' := (hp.push (PySem.W.kdv_tup us)).push (PySem.HandSPX.excO C hp.objs.size)) kk hsz (exo_ok hget)
  have r1 : Vals (V.ref (hp.objs.size + 1) :: vs) (Value.ref (hp.objs.size + 1) :: us) := .cons rfl r
  have r2 := hb.rel r1 rz
  have n1 : (Value.ref (hp.objs.size + 1) :: us).length = n + 1 := by rw [List.length_cons, ← r.length, l1]
  have hus : us.length ≤ sizeLine := by
    rw [← Paired.length r, sizeLine_eq]
    omega
  refine wpAny_call (call_kw F.excBase_ValueError (fun Y => PySem.HandSPX.refsVE_contains Y bm hbm) (I1.kIn _ _ hC) (PySem.W.looks_findIn I1.kIn iC) (fun self => PySem.W.bind_fn I1.kIn self tI) hus
    (codeAny_mono (F1.run _ X.stack _ _ ⟨Value.ref (hp.objs.size + 1) :: us, ks.zip ws⟩ (g (Value.ref (hp.objs.size + 1) :: us) ws) _ _ (fun _ _ _ => False) (hr.make C us (ks.zip ws)) (I2.env0.make C us (ks.zip ws)) (hb.to _ (Value.ref (hp.objs.size + 1) :: us) ws I2.kIn n1 (rz.length.symm.trans l2)) r2 hq) fun r s' hq' => ?_))
  cases r with
  | error er => exact hx pins σ _ _ er s' I2 hq'
  | ok fl =>
    cases fl with
    | ret u =>
      obtain ⟨v, H', I3, rv, ev, q3⟩ := I2.after hq'
      subst ev
      exact ⟨rv, ⟨V.ref (hp.objs.size + 1), H', I3, rfl, q3⟩⟩
    | next => exact False.elim hq'
    | brk => exact False.elim hq'
    | cont => exact False.elim hq'
theorem pe_exv (T : OexC X.K C) (iC : PySem.W.findIn X.K (.ref C) "__init__" = some (some (.ref fI))) (tI : PySem.W.typeIn X.K (.ref fI) = some (.type "function"))
    (F1 : FnOk X.prog X.w X.K X.mg X.base CX k fI fd ps sp) (hr : Room (k + 1) X.A) (hg : Gl X x) (hm : X.mg x = some (.ref C)) (hb : KBn X.K fd ps (n + 1) ([] : List Str) g gV) (hx : Passes CX X (fun _ _ _ => False)) (ha : PA X (e :: es) t)
    (hdb : (x == ("__debug__" : Str)) = false := by decide) (he : starEach (e :: es) X.env = (false, eval e X.env) :: starEach es X.env := by rfl) (hpl : (backTo pos (starEach es X.env)).any (·.1) = false := by rfl) :
    PE X (.Call (.Name x p) (e :: es) [] pos) (tMkV C n 0 sp gV t tNil) := by
  refine ⟨fun pins s σ H Q I h => ?_⟩
  refine wpAny_Call_Name_kw (ld_glob I hg hm ?_ hdb)
  refine PySem.W.callWith_K (h₀ := X.base) I.ok.mod.kin T.kC (thn (ha.run pos pins s σ H _ I h) fun us s1 ⟨vs, H1, I1, r, l1, l2, hn, q⟩ => ⟨I1.kIn, ?_⟩) he hpl
  show wpAny _ _ (call (.ref C) us) _ _ _
  exact run_exv (ws := []) (ks := []) T iC tI F1 hr hb hx I1 r .nil l1 rfl hn q
theorem pe_exvK (T : OexC X.K C) (iC : PySem.W.findIn X.K (.ref C) "__init__" = some (some (.ref fI))) (tI : PySem.W.typeIn X.K (.ref fI) = some (.type "function"))
    (F1 : FnOk X.prog X.w X.K X.mg X.base CX k fI fd ps sp) (hr : Room (k + 1) X.A) (hg : Gl X x) (hm : X.mg x = some (.ref C)) (hb : KBn X.K fd ps 1 ks g gV) (hx : Passes CX X (fun _ _ _ => False)) (hkw : PK X kws tk)
    (hall : (backToKw pos (keywordEach kws X.env)).all (·.1.isSome) = true := by rfl) (hks : (backToKw pos (keywordEach kws X.env)).filterMap (·.1) = ks := by rfl) (hdb : (x == ("__debug__" : Str)) = false := by decide)
    (hpl : ((backTo pos (starEach [] X.env)).any (·.1) || (backToKw pos (keywordEach kws X.env)).any (·.1.isNone)) = false := by rfl) :
    PE X (.Call (.Name x p) [] kws pos) (tMkV C 0 ks.length sp gV tNil tk) := by
  refine ⟨fun pins s σ H Q I h => ?_⟩
  refine wpAny_Call_Name_kw (ld_glob I hg hm ?_ hdb)
  refine PySem.W.callWith_KW0 (h₀ := X.base) I.ok.mod.kin T.kC hall ?_ hpl
  refine thn (hkw.run pos pins s σ H _ I h) fun ws s2 ⟨zs, H2, I2, rz, l1, l2, hn, q2⟩ => ⟨I2.kIn, ?_⟩
  rw [hks]
  exact run_exv (us := []) (vs := []) T iC tI F1 hr hb hx I2 .nil rz rfl l2 (Nat.zero_le _) q2
/-! ### attributes of an exception that is held as a value -/
structure ExAttr (K : PySem.W.Frag) (C : Addr) : Prop where
  ga : PySem.W.findIn K (.ref C) "__getattribute__" = some (some (.builtin "BaseException.__getattribute__"))
  gg : PySem.W.findIn K (.ref C) "__getattr__" = some none
  hs : PySem.W.subIn K (.ref C) (.type "BaseException") = some true
  hd : PySem.W.hasDictIn K C = true
  ha : PySem.W.findIn K (.ref C) "__class__" = some (some (.builtin "object.__class__"))
  hn : PySem.W.specialIn K (.builtin "object.__class__") "__get__" = some (some (.builtin "getset_descriptor.__get__"))
  ht : PySem.W.takesIn K (.builtin "object.__class__") = some true
  hm : PySem.W.mroIn K C (.type "object") = some true
def tExAt (K : PySem.W.Frag) (te : TE) (f : Str) : TE := fun σ H Q => te σ H fun x H1 => ∃ (a C d : Addr) (fs : List (Str × V)) (v : V), x = .ref a ∧ H1 a = some (exo a C (some d)) ∧ H1 d = some (exd d fs) ∧ ExAttr K C ∧ PySem.W.findIn K (.ref C) f = some none ∧ fs.lookup f = some v ∧ Q v H1
theorem exInst {pins : List (Addr × Obj)} {σ : L2.St} {H : Hp} {s : Shared} {a d : Addr} {fs : List (Str × V)} (I : Inv X pins σ H s) (ha : H a = some (exo a C (some d))) (hd : H d = some (exd d fs)) : ∃ oe od, PySem.W.InstAt s.heap a oe C (some od) ∧
    ∀ f v, fs.lookup f = some v → ∃ u, RelV v u ∧ PySem.W.lookIn f od = some (some u) := by
  obtain ⟨t1, ho⟩ := exo_at I.hok ha
  obtain ⟨mA, hns, rel⟩ := exd_at I.hok hd
  obtain ⟨od, hod, hl⟩ := lookIn_ns hns
  refine ⟨_, od, ⟨ho, rfl, rfl, hod⟩, fun f v hv => ?_⟩
  obtain ⟨u, hu, ru⟩ := RelO.some_of (v := v) (o := mA f) (by rw [← hv]; exact rel f)
  exact ⟨u, ru, by rw [hl f, hu]⟩
theorem pe_exat {f : Str} {te : TE} (he : PE X e te) (hb : attributeBase e f X.env (eval e X.env) = eval e X.env := by rfl) : PE X (.Attribute e f pos) (tExAt X.K te f) := by
  refine ⟨fun pins s σ H Q I h => ?_⟩
  refine attr_of hb (thn (he.run pins s σ H _ I h) fun u s1 ⟨x, H1, I1, rx, a, C, d, fs, v, ex, ha, hd, T, hno, hl, q⟩ => ?_)
  subst ex
  obtain rfl : u = Value.ref a := rx
  obtain ⟨oe, od, J, hlk⟩ := exInst I1 ha hd
  obtain ⟨u, ru, hu⟩ := hlk f v hl
  exact PySem.HandSPX.exc_get I1.kIn J T.ga T.gg T.hs (PySem.W.findObj_own T.hd hno rfl hu) (handed_of ru) ⟨v, H1, I1.tok _, ru, q⟩
/-! ### isinstance of such an exception -/
/-- at a: an exception of the class at C (its dict: any) -/
def ExAtC (H : Hp) (a C : Addr) : Prop := H a = some (exo a C none) ∨ ∃ d fs, H a = some (exo a C (some d)) ∧ H d = some (exd d fs)
def rIsX (K : PySem.W.Frag) : List V → Hp → VK → Prop := fun xs H Q => ∃ (a C : Addr) (c : V) (cv : Value) (b : Bool), xs = [.ref a, c] ∧ ExAtC H a C ∧ ExAttr K C ∧ (∀ u, RelV c u → u = cv) ∧ PySem.W.kitOne K (.ref C) cv = some b ∧ Q (.bl b) H
theorem exInst0 {pins : List (Addr × Obj)} {σ : L2.St} {H : Hp} {s : Shared} {a : Addr} (I : Inv X pins σ H s) (h : ExAtC H a C) : ∃ oe od, PySem.W.InstAt s.heap a oe C od := by
  rcases h with h | ⟨d, fs, h1, h2⟩
  · obtain ⟨t1, ho⟩ := exo_at I.hok h
    exact ⟨_, none, ho, rfl, rfl, trivial⟩
  · obtain ⟨oe, od, J, _⟩ := exInst I h1 h2
    exact ⟨oe, some od, J⟩
theorem call_isX : CallR X (.builtin "isinstance") (rIsX X.K) := by
  intro pins s σ H xs us Q I r h
  obtain ⟨a, C, c, cv, b, rfl, hx, T, hcv, e, q⟩ := h
  cases r with
  | cons rx rr =>
    cases rr with
    | cons rt rr =>
      cases rr
      cases rx
      have ec := hcv _ rt
      subst ec
      obtain ⟨oe, od, J⟩ := exInst0 I hx
      exact PySem.W.kia_one (PySem.W.kitx_exc (by obtain ⟨cd, hc, _⟩ := PySem.W.any_some T.hd; rw [hc]; rfl) T.ga T.gg T.hs T.ha T.hn T.ht T.hm) I.kIn J e (fun z => nomatch z) fun tk => ⟨.bl b, H, I.kept (t' := tk) fun _ _ z => z, rfl, q⟩
/-! ### C(), a class without an own __init__ -/
def tExc0 (C : Addr) : TE := fun _ H Q => ∀ a, H a = none → Q (.ref a) (upd H a (exo a C none))
theorem pe_exc0 (q : PySem.W.excIn X.K C [.type "ValueError", .type "Exception", .type "BaseException", .type "object"] "ValueError.__new__" = true) (kC : PySem.W.keepIn X.K (.ref C) = true) (hg : Gl X x) (gC : X.mg x = some (.ref C)) (hdb : (x == ("__debug__" : Str)) = false := by decide) :
    PE X (.Call (.Name x p) [] [] pos) (tExc0 C) := by
  refine ⟨fun pins s σ H Q I h => ?_⟩
  refine wpAny_Call_Name_kw (ld_glob I hg gC ?_ hdb)
  refine PySem.W.callWith_K0 I.kIn kC ?_
  obtain ⟨bm, N, nm, qn, bs, hdct, sn, sub, ab, col, dd, k0, k1, k2, k3, k5, mN, hC, hN, hni, T⟩ := exc_obj I.kIn q
  refine wpAny_call_exc_subT F.excBase_ValueError T hC hN hni (fun h' a hm => ?_) (by show 0 ≤ sizeLine; exact Nat.zero_le _)
  have hn : H a = none := I.hok.gone hm.new
  obtain ⟨t, ht, _, _⟩ := hm.there
  exact ⟨.ref a, upd H a (exo a C none), I.laidN hm.keeps hm.new hn (exo_ok ht), rfl, h a hn⟩
theorem pmk_exc0 (q : PySem.W.excIn X.K C [.type "ValueError", .type "Exception", .type "BaseException", .type "object"] "ValueError.__new__" = true) (kC : PySem.W.keepIn X.K (.ref C) = true) (r : Raises X (.ref C)) (hg : Gl X x) (gC : X.mg x = some (.ref C)) (hdb : (x == ("__debug__" : Str)) = false := by decide) :
    PMk X (.Call (.Name x p) [] [] pos) (fun σ H Q => Q (.ref C) none H) := by
  intro pins s σ H Q I h
  refine wpAny_Call_Name_kw (ld_glob I hg gC ?_ hdb)
  refine PySem.W.callWith_K0 I.kIn kC ?_
  obtain ⟨bm, N, nm, qn, bs, hdct, sn, sub, ab, col, dd, k0, k1, k2, k3, k5, mN, hC, hN, hni, T⟩ := exc_obj I.kIn q
  refine wpAny_call_exc_subT F.excBase_ValueError T hC hN hni (fun h' a hm => ?_) (by show 0 ≤ sizeLine; exact Nat.zero_le _)
  exact mk_of I hm r h (I.hok.gone hm.new)
end
end Fx
namespace Fx
open PySem PySem.Spec PyProof.Rows L2
/-- H' is H but for the exception a of the class C and its own dict d, which is new -/
def MadeX (H H' : Hp) (a C d : Addr) (fs : List (Str × V)) : Prop := H d = none ∧ d ≠ a ∧ H' a = some (exo a C (some d)) ∧ H' d = some (exd d fs) ∧ ∀ b, b ≠ a → b ≠ d → H' b = H b
def spInit1 (K : PySem.W.Frag) (D fI : Addr) (f : Str) : Sp := fun vs H Q _ => ∃ (a C : Addr) (y : V), vs = [.ref a, y] ∧ XC K C D fI ∧ PySem.W.findIn K (.ref C) f = some none ∧ H a = some (exo a C none) ∧ ∀ (d : Addr) (H' : Hp), MadeX H H' a C d [(f, y)] → Q .non H'
def spInit2 (K : PySem.W.Frag) (D fI : Addr) (f g : Str) : Sp := fun vs H Q _ => ∃ (a C : Addr) (y z : V), vs = [.ref a, y, z] ∧ XC K C D fI ∧ PySem.W.findIn K (.ref C) f = some none ∧ PySem.W.findIn K (.ref C) g = some none ∧ H a = some (exo a C none) ∧
  ∀ (d : Addr) (H' : Hp), MadeX H H' a C d [(g, z), (f, y)] → Q .non H'
end Fx

/-! Promises of defs that are only called where no repr is under way (repr asks that). -/
namespace Gd
open PySem PySem.Spec PyProof.Rows L2
structure RoomG (k : Nat) (A : Around) : Prop extends Room k A where
  gd : A.guards = some []
theorem RoomG.mono {j k : Nat} {A : Around} (r : RoomG k A) (h : j ≤ k) : RoomG j A := ⟨r.toRoom.mono h, r.gd⟩
theorem RoomG.deeper {k : Nat} {A : Around} (r : RoomG (k + 1) A) (env : Env) : RoomG k (A.deeper env) := ⟨r.toRoom.deeper env, r.gd⟩
structure FnG (P : Program) (w : World) (K : PySem.W.Frag) (mg : Str → Option Value) (base : Heap) (CX : CXT) (k : Nat) (f : Addr) (fd : FuncData) (ps : List Str) (sp : Sp) : Prop where
  len : ∀ vs H Q E, sp vs H Q E → vs.length = ps.length
  run : ∀ (A : Around) (outer : List Env) (s : Shared) (H : Hp) (args : Args) (us : List Value) (vs : List V) (Q : VK) (E : XK), RoomG k A → Env0 P w K mg base A outer s H → BindsTo s fd args (ps.zip us) → Vals vs us → sp vs H Q E →
    codeAny (model P w) A (.call (.ref f) args) (CR CX outer P w H s Q E) s
section
variable {P : Program} {w : World} {K : PySem.W.Frag} {mg : Str → Option Value} {base : Heap} {CX : CXT} {k : Nat} {f : Addr} {fd : FuncData} {ps : List Str} {sp : Sp}
theorem FnG.of (F : FnOk P w K mg base CX k f fd ps sp) : FnG P w K mg base CX k f fd ps sp := ⟨F.len, fun A outer s H args us vs Q E hr => F.run A outer s H args us vs Q E hr.toRoom⟩
theorem FnG.mono {j : Nat} (F : FnG P w K mg base CX j f fd ps sp) (h : j ≤ k) : FnG P w K mg base CX k f fd ps sp := ⟨F.len, fun A outer s H args us vs Q E hr => F.run A outer s H args us vs Q E (hr.mono h)⟩
/-- a def by its body, as fn_of tells it, the guards told too -/
theorem fn_ofG {name qual : Str} {params : Arguments} {body : List Stmt} {scope : Scope} {dV kV doc pm cdv ct oc : Value} {an od : Option Addr} {osl : Array (Option Value)} {N : List Str}
    (lk : K.lookup f = some ⟨oc, od, .func (PySem.W.fnOf name qual params body scope dV kV doc pm an cdv ct), osl⟩) (hcd : PySem.W.codeIn K cdv qual = true) (S : FnScope N ps scope) (len : ∀ vs H Q E, sp vs H Q E → vs.length = ps.length)
    (hb : ∀ (A : Around) (outer : List Env) (s : Shared) (H : Hp) (vs : List V) (Q : VK) (E : XK), RoomG k (A.deeper (envOfC qual scope s.heap.objs.size f cdv)) → sp vs H Q E →
      ∃ t, PSs (cxOf CX P w K mg base N qual scope f cdv A outer s H E) body t ∧ t { nx := fun _ H' => Q .non H', rt := Q } (start N vs) H) :
    FnG P w K mg base CX (k + 1) f (PySem.W.fnOf name qual params body scope dV kV doc pm an cdv ct) ps sp := by
  refine ⟨len, fun A outer s H args us vs Q E hr e0 hbi r hsp => ?_⟩
  have kept : ∀ b o, base.get? b = some o → s.heap.get? b = some o := fun b o e => (e0.bs b o e).1
  have KX := e0.mod.kin.keeps kept
  have lim := e0.mod.nolimit.keeps kept
  refine codeAny_call_function hr.toRoom.depth (KX _ _ lk) rfl S.co S.gen rfl (PySem.W.codeRec_of KX hcd) (hbi _ _ _ _ ?_)
  refine wpAny_newFunctionEnv_cells S.kind (fun ⟨n, v⟩ hy => ?_) fun env he s1 x => ?_
  · rcases S.par n (List.of_mem_zip hy).1 with q | q
    · exact .inl q
    · exact .inr ⟨q, PySem.W.cellsFrom_some _ _ _ (.inl q)⟩
  subst he
  refine ⟨lim.keeps x.toInCall.keep, codeAny_func ?_⟩
  obtain ⟨t, ht, hq⟩ := hb A outer s H vs Q E (hr.deeper _) hsp
  refine wpAny_mono (ht.run [] s1 (start N vs) H _ (inv_start S hr.hd e0 (len _ _ _ _ hsp) r x) hq) (fun fl s' hs => ?_) fun e s' hs => hs
  cases fl with
  | ret u =>
    obtain ⟨v, σ', H', J, rv, q⟩ := hs
    exact ⟨v, H', J.os, J.bare, J.base, J.hok, rv, q⟩
  | next =>
    obtain ⟨σ', H', J, q⟩ := hs
    exact ⟨.non, H', J.os, J.bare, J.base, J.hok, rfl, q⟩
  | brk => exact False.elim hs.choose_spec.choose_spec.2
  | cont => exact False.elim hs.choose_spec.choose_spec.2
theorem okG {x qual : Str} {st : Stmt} {N : List Str} (F : Fun K x qual st f fd) (S : FnScope N ps (defScope st)) (len : ∀ vs H Q E, sp vs H Q E → vs.length = ps.length)
    (hbody : ∀ (cdv : Value) (A : Around) (outer : List Env) (s : Shared) (H : Hp) (vs : List V) (Q : VK) (E : XK), RoomG k (A.deeper (envOfC qual (defScope st) s.heap.objs.size f cdv)) → sp vs H Q E →
      ∃ t, PSs (cxOf CX0 P w K mg base N qual (defScope st) f cdv A outer s H E).nox (defBody st) t ∧ t { nx := fun _ H' => Q .non H', rt := Q } (start N vs) H) : FnG P w K mg base CX0 (k + 1) f fd ps sp := by
  obtain ⟨oc, od, kV, doc, pm, an, cdv, ct, osl, rfl, lk, hcd⟩ := F.ex
  refine fn_ofG lk hcd S len fun A outer s H vs Q E hr hsp => ?_
  obtain ⟨t, h, q⟩ := hbody cdv A outer s H vs Q E hr hsp
  exact ⟨t, h.nox, q⟩
theorem okGX {x qual : Str} {st : Stmt} {N : List Str} (F : Fun K x qual st f fd) (S : FnScope N ps (defScope st)) (len : ∀ vs H Q E, sp vs H Q E → vs.length = ps.length)
    (hbody : ∀ (cdv : Value) (A : Around) (outer : List Env) (s : Shared) (H : Hp) (vs : List V) (Q : VK) (E : XK), RoomG k (A.deeper (envOfC qual (defScope st) s.heap.objs.size f cdv)) → sp vs H Q E →
      ∃ t, PSs (cxOf CX P w K mg base N qual (defScope st) f cdv A outer s H E) (defBody st) t ∧ t { nx := fun _ H' => Q .non H', rt := Q } (start N vs) H) : FnG P w K mg base CX (k + 1) f fd ps sp := by
  obtain ⟨oc, od, kV, doc, pm, an, cdv, ct, osl, rfl, lk, hcd⟩ := F.ex
  exact fn_ofG lk hcd S len fun A outer s H vs Q E hr hsp => hbody cdv A outer s H vs Q E hr hsp
end
section
variable {X : Cx} {CX : CXT} {k : Nat} {f : Addr} {fd : FuncData} {ps : List Str} {sp : Sp} {dvs : List V} {ds : List Value} {E : XK} {x : Str} {p pos : Pos} {e : Expr} {es : List Expr} {t : TA}
theorem run_fnG {pins : List (Addr × Obj)} {σ : L2.St} {H : Hp} {s : Shared} {Q : VK} {us : List Value} {vs : List V} (F : FnG X.prog X.w X.K X.mg X.base CX k f fd ps sp) (hr : RoomG k X.A) (hb : L2.Binds X.K fd ps ds) (hd : Vals dvs ds) (hx : Passes CX X E)
    (I : Inv X pins σ H s) (r : Vals vs us) (h : sp (vs ++ dvs) H Q E) : wpAny (model X.prog X.w) X.A (call (.ref f) us) (EP X pins σ Q) X.xe s := by
  have r2 : Vals (vs ++ dvs) (us ++ ds) := r.append hd
  refine wpAny_call (codeAny_mono (F.run X.A X.stack s H ⟨us, []⟩ (us ++ ds) (vs ++ dvs) Q E hr I.env0 (hb s us I.kIn (r2.length.symm.trans (F.len _ _ _ _ h))) r2 h) fun r s' hq => ?_)
  cases r with
  | error e => exact hx pins σ H s e s' I hq
  | ok fl => cases fl <;> first | exact I.after hq | exact False.elim hq
theorem pe_callG (F : FnG X.prog X.w X.K X.mg X.base CX k f fd ps sp) (hr : RoomG k X.A) (hg : Gl X x) (hm : X.mg x = some (.ref f)) (hk : PySem.W.keepIn X.K (.ref f) = true) (hb : L2.Binds X.K fd ps ds) (hd : Vals dvs ds) (hx : Passes CX X E)
    (ha : PA X (e :: es) t) (hdb : (x == ("__debug__" : Str)) = false := by decide) (he : starEach (e :: es) X.env = (false, eval e X.env) :: starEach es X.env := by rfl) (hpl : (backTo pos (starEach es X.env)).any (·.1) = false := by rfl) :
    PE X (.Call (.Name x p) (e :: es) [] pos) (tCall sp dvs E t) :=
  ⟨fun pins s σ H Q I h => wpAny_Call_Name_kw (ld_glob I hg hm (PySem.W.callWith_K (h₀ := X.base) I.ok.mod.kin hk (thn (ha.run pos pins s σ H _ I h) fun us s1 ⟨vs, H1, I1, r, q⟩ => ⟨I1.kIn, run_fnG F hr hb hd hx I1 r q⟩) he hpl) hdb)⟩
end
/-! ### repr -/
/-- data of any form, dicts with plain keys too -/
def RdV (X : Cx) (H : Hp) (v : V) (d : PyData) : Prop := ∀ (pins : List (Addr × Obj)) (σ : L2.St) (s : Shared), Inv X pins σ H s → ∀ u, RelV v u → ∃ as, Reads s.heap u d as ∧ (d.hasDict = true → sysModules ∉ as)
theorem RdV.dp {X : Cx} {H : Hp} {v : V} {d : PyData} (h : Dp X.K H v d) (hn : d.hasDict = false) : RdV X H v d := fun pins σ s I u r => by
  obtain ⟨as, q⟩ := Dp.reads I d v u h r
  exact ⟨as, q, fun z => by rw [hn] at z; cases z⟩
/-- repr of a list or a tuple -/
def rRepr (X : Cx) : List V → Hp → VK → Prop := fun xs H Q => ∃ (a : Addr) (d : PyData), xs = [.ref a] ∧ RdV X H (.ref a) d ∧ d.showable = true ∧ d.depth ≤ 60 ∧ d.shown.length ≤ sizeLine ∧ Q (.str d.shown) H
theorem call_repr {X : Cx} (hg : X.A.guards = some []) (hu : X.A.units + 64 < cLine) : CallR X (.builtin "repr") (rRepr X) := by
  intro pins s σ H xs us Q I r h
  obtain ⟨a, d, rfl, hd, hs, hz, hl, q⟩ := h
  cases r with
  | cons rx rr =>
    cases rr
    obtain ⟨as, h1, h2⟩ := hd pins σ s I _ rx
    cases rx
    exact repr_of_reads' h1 hs h2 hg (by omega) (fun _ _ e => e) (fun h' u tk hk => ⟨.str d.shown, H, I.kept (h' := h') (t' := tk) hk, ⟨_, rfl⟩, q⟩) hl
/-! ### the law's own call -/
section
variable {P : Program} {w : World} {K : PySem.W.Frag} {mg mb : Str → Option Value} {k : Nat} {fa a : Addr} {fd : FuncData} {x : Str} {sp : Sp} {s₁ : Shared} {vs : List Value} {ns : List Int}
/-- from an abstract heap that tracks nothing but the script -/
theorem law_at {H : Hp} (KX : K.In s₁.heap) (hns : s₁.heap.Ns mainGlobals mg) (hb : s₁.heap.Ns builtinsNs mb) (hbb : ∀ x : Str, x ≠ "__name__" → mb x = bootBuiltins x) (hlim : s₁.heap.NoLimit) (hg : s₁.gens = #[])
    (hobj : s₁.heap.get? a = some { cls := .type "list", data := .seq vs.toArray }) (hr : RoomG k callerA)
    (F : ∀ base : Heap, K.In base → base.Ns mainGlobals mg → FnG P w K mg base CX0 k fa fd [x] sp) (hbind : ∀ (s : Shared) (u : Value), BindsTo s fd ⟨[u], []⟩ [(x, u)])
    (hO : Only H) (hok : HOk P w H s₁.heap) (hA : ∀ b, b ≠ a → H b = none) (hK : H a ≠ none → K.lookup a = none) (hsp : sp [.ref a] H (fun v _ => v = .bl true) fun _ _ _ => False) :
    codeAny (model P w) callerA (.call (.ref fa) ⟨[.ref a], []⟩) (fun r s' => r = .ok (.ret (.bool true)) ∧ OldK s₁.heap s'.heap ∧ s'.os = s₁.os ∧ AllBare s'.gens) s₁ := by
  have free : ∀ {b : Addr} {o : Obj} {es : Array DictEntry} {ep : Nat}, s₁.heap.get? b = some o → o.data = .dict es ep → H b = none := fun {b o es ep} e d => hA b fun z => by
    subst z
    rw [hobj] at e
    cases e
    cases d
  have ns' : ∀ {b : Addr} {m : Str → Option Value}, s₁.heap.Ns b m → (hidT s₁.heap H).Ns b m := fun {b m} ⟨o, es, ep, e, d, r⟩ => ⟨o, es, ep, hidT_get e (free e d), d, r⟩
  have KX' : K.In (hidT s₁.heap H) := fun b o e => hidT_get (KX b o e) (by
    by_cases z : b = a
    · by_cases q : H a = none
      · rw [z]
        exact q
      · rw [z, hK q] at e
        cases e
    · exact hA b z)
  have e0 : Env0 P w K mg (hidT s₁.heap H) callerA [] s₁ H := by
    obtain ⟨mc, h1, h2⟩ := hlim
    exact ⟨rfl, ⟨KX', ns' hns, ⟨mb, ns' hb, hbb⟩, mc, ns' h1, h2⟩, fun b o e => of_hidT e, Nat.le_of_eq (hidT_size _ _), trivial, fun b z => absurd (show b ∈ ([] : List Addr) from z) (by simp), hok, .of_eq hg⟩
  refine codeAny_mono ((F _ KX' (ns' hns)).run callerA [] s₁ H ⟨[.ref a], []⟩ [.ref a] [.ref a] _ _ hr e0 (hbind s₁ (.ref a)) (.cons rfl .nil) hsp) fun r s' h => ?_
  cases r with
  | error e => exact False.elim h
  | ok fl =>
    cases fl with
    | next => exact False.elim h
    | brk => exact False.elim h
    | cont => exact False.elim h
    | ret u =>
      obtain ⟨v, H', os, bare, un, hok', r', q⟩ := h
      cases (show v = .bl true from q)
      cases (show u = Value.bool true from r')
      refine ⟨rfl, OldK.of_keep fun b o e => ?_, os, bare⟩
      rcases hO b with q | ⟨ob, xs, q⟩
      · exact un.keep b o e q (fun z => absurd (show b ∈ ([] : List Addr) from z) (by simp)) (by simp)
      · have e1 := (hok b _ q).1
        rw [e] at e1
        cases e1
        exact (hok' b _ (un.frzs b o _ q)).1
theorem law_callG (KX : K.In s₁.heap) (hns : s₁.heap.Ns mainGlobals mg) (hb : s₁.heap.Ns builtinsNs mb) (hbb : ∀ x : Str, x ≠ "__name__" → mb x = bootBuiltins x) (hlim : s₁.heap.NoLimit) (hg : s₁.gens = #[])
    (hobj : s₁.heap.get? a = some { cls := .type "list", data := .seq vs.toArray }) (hi : IntsAre vs ns) (hl : ns.length ≤ sizeLine) (hr : RoomG k callerA)
    (F : ∀ base : Heap, K.In base → base.Ns mainGlobals mg → FnG P w K mg base CX0 k fa fd [x] sp) (hbind : ∀ (s : Shared) (u : Value), BindsTo s fd ⟨[u], []⟩ [(x, u)])
    (hsp : ∀ H : Hp, Only H → SqL K H a (ns.map V.int) → sp [.ref a] H (fun v _ => v = .bl true) fun _ _ _ => False) :
    codeAny (model P w) callerA (.call (.ref fa) ⟨[.ref a], []⟩) (fun r s' => r = .ok (.ret (.bool true)) ∧ OldK s₁.heap s'.heap ∧ s'.os = s₁.os ∧ AllBare s'.gens) s₁ := by
  cases hk : K.lookup a with
  | some o =>
    have e := KX a o hk
    rw [hobj] at e
    cases e
    have hO : Only (fun _ => none) := fun b => .inl rfl
    exact law_at KX hns hb hbb hlim hg hobj hr F hbind hO (fun b u z => by cases z) (fun b _ => rfl) (fun z => absurd rfl z)
      (hsp _ hO (.inr ⟨_, vs.toArray, _, hk, rfl, rfl, rfl, by rw [List.size_toArray, hi.length]; exact hl, by simpa using vals_ints hi⟩))
  | none =>
    have hf : (fun b => if b = a then some (HO.frz { cls := .type "list", data := .seq vs.toArray } (.lst (ns.map V.int))) else none : Hp) a = some (.frz { cls := .type "list", data := .seq vs.toArray } (.lst (ns.map V.int))) := if_pos rfl
    have hn : ∀ b, b ≠ a → (fun b => if b = a then some (HO.frz { cls := .type "list", data := .seq vs.toArray } (.lst (ns.map V.int))) else none : Hp) b = none := fun b z => if_neg z
    revert hf hn
    generalize (fun b => if b = a then some (HO.frz { cls := .type "list", data := .seq vs.toArray } (.lst (ns.map V.int))) else none : Hp) = H
    intro hf hn
    have hO : Only H := fun b => by
      by_cases z : b = a
      · exact .inr ⟨_, _, by rw [z]; exact hf⟩
      · exact .inl (hn b z)
    refine law_at KX hns hb hbb hlim hg hobj hr F hbind hO (fun b u z => ?_) hn (fun _ => hk) (hsp _ hO (.inl (.inr ⟨_, hf⟩)))
    by_cases q : b = a
    · subst q
      rw [hf] at z
      cases z
      exact ⟨hobj, by rw [List.length_map]; exact hl, vs, _, vals_ints hi, hobj⟩
    · rw [hn b q] at z
      cases z
end
theorem walk_ofG {l : PySem.W.OpenLaw} {n k : Nat} {q : Program} {loose : List Str} {XP : (Str → Option Value) → Heap → Prop} {YP : World → Heap → Prop} {d : DefRec} {K : Params → PySem.W.Frag} {sp : PySem.W.Frag → Sp} {x : Str}
    (hn : l.most = some n) (hn2 : n ≤ sizeLine) (hdf : d.params.defaults = []) (hr : RoomG k callerA)
    (hY : ∀ (w : World) (h : Heap), YP w h → (K w.params).In h)
    (F : ∀ (w : World) (mg : Str → Option Value) (fa : Addr) (h : Heap), (K w.params).In h → h.Ns mainGlobals mg → mg d.name = some (.ref fa) →
      ∃ fd : FuncData, (∀ (s : Shared) (u : Value), BindsTo s fd ⟨[u], []⟩ [(x, u)]) ∧ ∀ base : Heap, (K w.params).In base → base.Ns mainGlobals mg → FnG l.prog w (K w.params) mg base CX0 k fa fd [x] (sp (K w.params)))
    (hsp : ∀ (K : PySem.W.Frag) (H : Hp) (a : Addr) (ns : List Int), ns.length ≤ n → Only H → SqL K H a (ns.map V.int) → sp K [.ref a] H (fun v _ => v = .bl true) fun _ _ _ => False) :
    PySem.W.WalkO q loose XP YP l.row.toRowW d [] (fun f vs => PySem.call f vs) := by
  refine Att.attach_call hn hdf fun w s₀ s₁ mg mb fa o pm cd doc a vs ns G Y ho hd hcd hmg hobj hints hlen hg => ?_
  obtain ⟨fd, hb, hF⟩ := F w mg fa _ (hY w _ Y) G.T.g hmg
  exact law_callG (hY w _ Y) G.T.g G.T.b G.T.builtins G.T.nolimit hg hobj hints (Nat.le_trans hlen hn2) hr hF hb fun H hO hS => hsp _ H a ns hlen hO hS
end Gd

namespace K00
open PySem PySem.Spec L2
def top (i : Nat) : Stmt := PySem.Challenge.pw_followface_k00_errors_and_their_fields.main.body.getD i (.Pass ⟨0, 0, 0, 0⟩)
abbrev sWell : Stmt := top 16
abbrev sDraw : Stmt := top 17
abbrev sOne : Stmt := top 18
/-- the well at a: its cells at l, n draws at most were begun -/
def WellAt (H : Hp) (a l : Addr) (ns : List Int) (n : Nat) : Prop := a ≠ l ∧ H l = some (.lst (ns.map V.int)) ∧ ∃ t r : Int, 0 ≤ t ∧ t ≤ (n : Int) ∧ 0 ≤ r ∧ H a = some (.lst [.ref l, .int t, .int r])
def spDraw : Sp := fun vs H Q _ => ∃ (a l : Addr) (ns : List Int) (n : Nat) (many : Int), vs = [.ref a, .int many] ∧ many < 1073741824 ∧ WellAt H a l ns n ∧ n ≤ 1048576 ∧ ns.length ≤ 60 ∧
  ∀ (v : Int) (H' : Hp), 0 ≤ v → (v = 0 ∨ v < many) → WellAt H' a l ns (n + 1) → (∀ b, b ≠ a → (∀ o, H b = some o → H' b = some o)) → Q (.int v) H'
theorem WellAt.more {H : Hp} {a l : Addr} {ns : List Int} {n m : Nat} (h : WellAt H a l ns n) (hm : n ≤ m) : WellAt H a l ns m := by
  obtain ⟨h1, h2, t, r, h3, h4, h5, h6⟩ := h
  exact ⟨h1, h2, t, r, h3, by omega, h5, h6⟩
theorem WellAt.put {H : Hp} {a l : Addr} {ns : List Int} {n : Nat} {t r : Int} (hal : a ≠ l) (hL : H l = some (.lst (ns.map V.int))) (ht : 0 ≤ t) (htn : t ≤ (n : Int)) (hr : 0 ≤ r) : WellAt (upd H a (.lst [.ref l, .int t, .int r])) a l ns n :=
  ⟨hal, by rw [upd_ne hal.symm]; exact hL, t, r, ht, htn, hr, upd_same⟩
theorem fmod_range (x m : Int) (h : 2 ≤ m) : 0 ≤ x.fmod m ∧ x.fmod m < m := ⟨Int.fmod_nonneg_of_pos x (by omega), Int.fmod_lt_of_pos x (by omega)⟩
theorem fdiv_nn {x m : Int} (hx : 0 ≤ x) (h : 2 ≤ m) : 0 ≤ x.fdiv m := Int.fdiv_nonneg hx (by omega)
structure TxtD (mg : Str → Option Value) : Prop where
  int : mg "int" = none
  len : mg "len" = none
  abs : mg "abs" = none
theorem dpInts {K : PySem.W.Frag} {H : Hp} : ∀ ns : List Int, DpAll K H (ns.map V.int) (ns.map PyData.int)
  | [] => .nil
  | n :: ns => .cons (.int n) (dpInts ns)
theorem shapedInts (ns : List Int) : SeqAt.shaped (.list (ns.map PyData.int)) = true := by
  have h : ∀ ns : List Int, PyData.canLayAll0 (ns.map PyData.int) = true ∧ PyData.depthAll (ns.map PyData.int) = 0 := by
    intro ns
    induction ns with
    | nil => exact ⟨rfl, rfl⟩
    | cons n ns ih =>
      refine ⟨?_, ?_⟩
      · show (PyData.canLay0 (.int n) && PyData.canLayAll0 (ns.map PyData.int)) = true
        rw [ih.1]
        rfl
      · show max (PyData.depth (.int n)) (PyData.depthAll (ns.map PyData.int)) = 0
        rw [ih.2]
        rfl
  unfold SeqAt.shaped
  show (PyData.canLayAll0 (ns.map PyData.int) && decide (PyData.depthAll (ns.map PyData.int) + 1 ≤ 64)) = true
  rw [(h ns).1, (h ns).2]
  rfl
section
variable {P : Program} {w : World} {K : PySem.W.Frag} {mg : Str → Option Value} {base : Heap}
theorem scD : FnScope ["well", "many", "rest", "turn", "cell", "mixed"] ["well", "many"] (defScope sDraw) := ⟨rfl, rfl, rfl, by decide +kernel, rfl, by decide +kernel, by decide +kernel⟩
theorem ok_draw {f : Addr} {fd : FuncData} (F : Fun K "_law_draw" "_law_draw" sDraw f fd) (T : TxtD mg) : FnOk P w K mg base CX0 1 f fd ["well", "many"] spDraw := by
  refine F.ok scD (fun vs H Q E h => ?_) (fun cdv A outer s H vs Q E hr h => ?_)
  · obtain ⟨a, l, ns, n, many, rfl, _⟩ := h
    rfl
  · have hu := hr.units
    refine ⟨_, pss_cons (ps_if (pt_cmpR op_lt (pv 1) pe_int (nomark _)) (pss_one (ps_ret pe_int)) pss_nil)
      (pss_cons (ps_if (pt_cmpR op_gt (pe_ix ix_list (pv 0) pe_int (fun _ _ => rfl)) pe_int (nomark _))
          (pss_cons (ps_set (i := 2) scD.nd rfl (Or.inl rfl) (pe_callTy call_int1 (by rfl) T.int (by decide +kernel) (pa_cons (pe_ix ix_list (pv 0) pe_int (fun _ _ => rfl)) pa_nil)))
          (pss_cons (ps_asg (pe_op op_fdivN (pv 2) (pv 1)) (pg_sub (pv 0) pe_int set_list))
          (pss_one (ps_ret (pe_op op_modN (pe_callTy call_int1 (by rfl) T.int (by decide +kernel) (pa_cons (pv 2) pa_nil)) (pv 1)))))) pss_nil)
      (pss_cons (ps_set (i := 3) scD.nd rfl (Or.inl rfl) (pe_ix ix_list (pv 0) pe_int (fun _ _ => rfl)))
      (pss_cons (ps_asg (pe_op op_add (pv 3) pe_int) (pg_sub (pv 0) pe_int set_list))
      (pss_cons (ps_set (i := 4) scD.nd rfl (Or.inl rfl) (pe_op op_add (pe_op op_mul pe_int (pv 3)) pe_int))
      (C8.pss_cut (ps_if (pt_cmpR (op_neD hu) (pe_ix ix_list (pv 0) pe_int (fun _ _ => rfl)) (pe_lst pa_nil) (nomark _))
          (pss_one (ps_set (i := 4) scD.nd rfl (Or.inl rfl) (pe_ix ix_list (pe_ix ix_list (pv 0) pe_int (fun _ _ => rfl)) (pe_op op_modN (pe_callTy call_int1 (by rfl) T.int (by decide +kernel) (pa_cons (pv 3) pa_nil)) (pe_callB call_len_seq (by rfl) T.len PySem.boot_len (pa_cons (pe_ix ix_list (pv 0) pe_int (fun _ _ => rfl)) pa_nil))) (fun _ _ => rfl)))) pss_nil)
      (C8.pss_cut (ps_if (PW.pt (pw_and (pt_cmpR op_lt (pv 3) (pe_callB call_len_seq (by rfl) T.len PySem.boot_len (pa_cons (pe_ix ix_list (pv 0) pe_int (fun _ _ => rfl)) pa_nil)) (nomark _)) (pw_and1 (pt_cmpR op_ge (pe_callB call_abs (by rfl) T.abs (by decide +kernel) (pa_cons (pv 4) pa_nil)) (pe_op op_pow pe_int pe_int) (nomark _)))))
          (pss_cons (ps_set (i := 2) scD.nd rfl (Or.inl rfl) (pe_op op_add (pe_op op_mul pe_int (pe_op op_sub (pe_callB call_abs (by rfl) T.abs (by decide +kernel) (pa_cons (pv 4) pa_nil)) (pe_op op_pow pe_int pe_int))) (pe_callTy call_int1 (by rfl) T.int (by decide +kernel) (pa_cons (pe_cmpR op_lt (pv 4) pe_int (nomark _)) pa_nil))))
          (pss_cons (ps_asg (pe_op op_fdivN (pv 2) (pv 1)) (pg_sub (pv 0) pe_int set_list))
          (pss_one (ps_ret (pe_op op_modN (pe_callTy call_int1 (by rfl) T.int (by decide +kernel) (pa_cons (pv 2) pa_nil)) (pv 1)))))) pss_nil)
      (pss_cons (ps_set (i := 5) scD.nd rfl (Or.inl rfl) (pe_op op_modN (pe_callTy call_int1 (by rfl) T.int (by decide +kernel) (pa_cons (pe_op op_pow (pe_op op_add (pe_op op_add (pe_op op_modN (pe_callTy call_int1 (by rfl) T.int (by decide +kernel) (pa_cons (pv 4) pa_nil)) pe_int) (pe_op op_mul pe_int (pv 3))) pe_int) pe_int) pa_nil)) pe_int))
      (pss_cons (ps_set (i := 5) scD.nd rfl (Or.inl rfl) (pe_op op_modN (pe_callTy call_int1 (by rfl) T.int (by decide +kernel) (pa_cons (pe_op op_pow (pe_op op_add (pe_op op_add (pe_op op_mul (pv 5) (pe_op op_add (pe_op op_mul pe_int (pv 3)) pe_int)) (pe_op op_mul (pe_op op_mul pe_int (pv 3)) (pv 3))) pe_int) pe_int) pa_nil)) pe_int))
      (pss_one (ps_ret (pe_op op_modN (pe_callTy call_int1 (by rfl) T.int (by decide +kernel) (pa_cons (pe_op op_fdivN (pv 5) pe_int) pa_nil)) (pv 1)))))))))))), ?_⟩
    obtain ⟨a, l, ns, n, many, rfl, hmany, ⟨hal, hL, t, r, ht0, htn, hr0, hA⟩, hn, hlen, k⟩ := h
    have dpl : ∀ (H1 : Hp), H1 l = some (.lst (ns.map V.int)) → Dp K H1 (.ref l) (.list (ns.map PyData.int)) := fun H1 e => .lst (SqL.of e) (dpInts ns)
    -- if many < 2: return 0
    refine ⟨_, rfl, _, _, rfl, rfl, _, rfl, ite2 (fun c => ?_) (fun c => ?_)⟩
    · exact k 0 _ (Int.le_refl _) (.inl rfl) ⟨hal, hL, t, r, ht0, by omega, hr0, hA⟩ fun b _ o e => e
    have hm2 : 2 ≤ many := by
      have := of_decide_eq_false (Bool.eq_false_iff.mpr c)
      omega
    -- if well[2] > 0
    refine ⟨_, rfl, _, _, _, _, rfl, rfl, SqL.of hA, rfl, _, _, rfl, rfl, _, rfl, ite2 (fun c2 => ?_) (fun c2 => ?_)⟩
    · refine ⟨_, rfl, _, _, _, _, rfl, rfl, SqL.of hA, rfl, .inl ⟨_, rfl, ?_⟩⟩
      refine ⟨_, rfl, _, rfl, _, _, rfl, rfl, ⟨by omega, by omega⟩, _, rfl, _, _, _, _, rfl, rfl, hA, rfl, ?_⟩
      refine ⟨_, rfl, .inl ⟨_, rfl, _, rfl, _, _, rfl, rfl, by omega, ?_⟩⟩
      refine k _ _ (fmod_range _ _ hm2).1 (.inr (fmod_range _ _ hm2).2) (WellAt.put hal hL ht0 (by omega) (fdiv_nn hr0 hm2)) fun b hb o e => ?_
      rw [upd_ne hb]
      exact e
    -- turn = well[1]; well[1] = turn + 1; cell = c1 * turn + c2
    refine ⟨_, rfl, _, _, _, _, rfl, rfl, SqL.of hA, rfl, ?_⟩
    refine ⟨_, rfl, _, _, rfl, rfl, _, rfl, _, _, _, _, rfl, rfl, hA, rfl, ?_⟩
    have W1 : WellAt (upd H a (.lst [.ref l, .int (t + 1), .int r])) a l ns (n + 1) := WellAt.put hal hL (by omega) (by omega) hr0
    have hA1 : upd H a (.lst [.ref l, .int (t + 1), .int r]) a = some (.lst [.ref l, .int (t + 1), .int r]) := upd_same
    have hL1 : upd H a (.lst [.ref l, .int (t + 1), .int r]) l = some (.lst (ns.map V.int)) := by rw [upd_ne hal.symm]; exact hL
    have k1 : ∀ b, b ≠ a → ∀ o, H b = some o → upd H a (.lst [.ref l, .int (t + 1), .int r]) b = some o := fun b hb o e => by rw [upd_ne hb]; exact e
    show tSeq _ _ _ _ (upd H a (.lst [.ref l, .int (t + 1), .int r]))
    revert W1 hA1 hL1 k1
    generalize upd H a (.lst [.ref l, .int (t + 1), .int r]) = H1
    intro W1 hA1 hL1 k1
    refine ⟨_, rfl, _, _, rfl, rfl, .inl ⟨by decide, by decide⟩, _, _, rfl, rfl, ?_⟩
    -- if well[0] != []: behind it cell is some int, and [] may stand beside
    refine ⟨fun σ' H' => ∃ (c : Int), σ' = [some (.ref a), some (.int many), none, some (.int t), some (.int c), none] ∧ WellAt H' a l ns (n + 1) ∧ H' a = some (.lst [.ref l, .int (t + 1), .int r]) ∧ H' l = some (.lst (ns.map V.int)) ∧ ∀ b, b ≠ a → ∀ o, H b = some o → H' b = some o, ?_, ?_⟩
    · refine ⟨_, rfl, _, _, _, _, rfl, rfl, SqL.of hA1, rfl, Nat.zero_le _, fun p hp => ?_⟩
      have npa : a ≠ p := ne_of_none hA1 hp
      have npl : l ≠ p := ne_of_none hL1 hp
      have hA2 : upd H1 p (.lst []) a = some (.lst [.ref l, .int (t + 1), .int r]) := by rw [upd_ne npa]; exact hA1
      have hL2 : upd H1 p (.lst []) l = some (.lst (ns.map V.int)) := by rw [upd_ne npl]; exact hL1
      have k2 : ∀ b, b ≠ a → ∀ o, H b = some o → upd H1 p (.lst []) b = some o := fun b hb o e => by
        rw [upd_ne (ne_of_none (k1 b hb o e) hp)]
        exact k1 b hb o e
      have dp : Dp K (upd H1 p (.lst [])) (.ref p) (.list []) := .lst (SqL.of upd_same) .nil
      have W2 : WellAt (upd H1 p (.lst [])) a l ns (n + 1) := ⟨hal, hL2, t + 1, r, by omega, by omega, hr0, hA2⟩
      revert hA2 hL2 k2 dp W2
      generalize upd H1 p (.lst []) = H2
      intro hA2 hL2 k2 dp W2
      refine ⟨_, _, dpl _ hL2, dp, shapedInts ns, by decide, _, rfl, ite2 (fun c3 => ?_) (fun c3 => ?_)⟩
      · have hne : ns ≠ [] := fun e => by
          rw [e] at c3
          exact absurd c3 (by decide)
        have hlp : 0 < ns.length := List.length_pos_iff.mpr hne
        obtain ⟨j, hj, hjl⟩ : ∃ j : Nat, t.fmod (ns.length : Int) = (j : Int) ∧ j < ns.length := by
          have h1 := Int.fmod_nonneg_of_pos t (b := (ns.length : Int)) (by omega)
          have h2 := Int.fmod_lt_of_pos t (b := (ns.length : Int)) (by omega)
          exact ⟨(t.fmod (ns.length : Int)).toNat, by omega, by omega⟩
        refine ⟨_, rfl, _, _, _, _, rfl, rfl, SqL.of hA2, rfl, ?_⟩
        refine ⟨_, rfl, .inl ⟨_, rfl, ?_⟩⟩
        refine ⟨_, rfl, _, _, _, _, rfl, rfl, SqL.of hA2, rfl, l, _, rfl, .inl (SqL.of hL2), ?_⟩
        refine ⟨_, _, rfl, rfl, by rw [List.length_map]; omega, l, _, _, .int (ns[j]'hjl), rfl, rfl, SqL.of hL2, ?_, ?_⟩
        · rw [List.length_map, hj]
          exact atI_nat (by rw [List.getElem?_map, List.getElem?_eq_getElem hjl]; rfl)
        · exact ⟨_, rfl, W2, hA2, hL2, k2⟩
      · exact ⟨_, rfl, W2, hA2, hL2, k2⟩
    · rintro σ' H3 ⟨c, rfl, W3, hA3, hL3, k3⟩
      have fin : ∀ (m : Int) (H' : Hp), WellAt H' a l ns (n + 1) → (∀ b, b ≠ a → ∀ o, H b = some o → H' b = some o) → Q (.int (m.fmod many)) H' := fun m H' W' k' => k _ _ (fmod_range _ _ hm2).1 (.inr (fmod_range _ _ hm2).2) W' k'
      refine ⟨fun σ' H' => σ' = [some (.ref a), some (.int many), none, some (.int t), some (.int c), none] ∧ H' = H3, ?_, ?_⟩
      · refine ⟨_, rfl, _, rfl, _, _, _, _, rfl, rfl, SqL.of hA3, rfl, l, _, rfl, .inl (SqL.of hL3), _, _, rfl, rfl, _, rfl, ite2 (fun c4 => ?_) (fun c4 => iteF ⟨rfl, rfl⟩)⟩
        refine ⟨_, rfl, _, rfl, _, _, rfl, rfl, ⟨by decide, by decide, by decide⟩, _, _, rfl, rfl, _, rfl, ite2 (fun c5 => ?_) (fun c5 => ⟨rfl, rfl⟩)⟩
        have hbig : (10 : Int) ^ (18 : Int).toNat ≤ (if c < 0 then -c else c) := of_decide_eq_true c5
        refine ⟨_, rfl, _, rfl, _, _, rfl, rfl, ⟨by decide, by decide, by decide⟩, _, _, rfl, rfl, _, _, rfl, rfl, .inl ⟨by decide, by decide⟩, _, rfl, _, _, rfl, rfl, .inr ⟨_, rfl, _, _, rfl, rfl, ?_⟩⟩
        refine ⟨_, rfl, _, rfl, _, _, rfl, rfl, ⟨by omega, by omega⟩, _, rfl, _, _, _, _, rfl, rfl, hA3, rfl, ?_⟩
        refine ⟨_, rfl, .inl ⟨_, rfl, _, rfl, _, _, rfl, rfl, by omega, ?_⟩⟩
        refine fin _ _ (WellAt.put hal hL3 (by omega) (by omega) (fdiv_nn ?_ hm2)) fun b hb o e => ?_
        · have h0 : (0 : Int) ≤ (if decide (c < 0) = true then 1 else 0) := by split <;> decide
          omega
        · rw [upd_ne hb]
          exact k3 b hb o e
      · rintro σ' H' ⟨rfl, rfl⟩
        have m0 : ∀ (x m : Int), 0 < m → 0 ≤ x.fmod m ∧ x.fmod m < m := fun x m h => ⟨Int.fmod_nonneg_of_pos x h, Int.fmod_lt_of_pos x h⟩
        have b1 := m0 c 2147483549 (by decide)
        refine ⟨_, rfl, .inl ⟨_, rfl, _, _, rfl, rfl, (show (2147483549 : Int) ≠ 0 by decide), _, rfl, _, _, rfl, rfl, .inl ⟨by decide, by decide⟩, _, _, rfl, rfl, _, _, rfl, rfl, _, _, rfl, rfl, ⟨by decide, by decide, by omega⟩, .inl ⟨_, rfl, _, _, rfl, rfl, (show (2147483587 : Int) ≠ 0 by decide), ?_⟩⟩⟩
        have b2 := m0 ((c.fmod 2147483549 + 31159 * t + 7001) ^ Int.toNat 5) 2147483587 (by decide)
        have ht2 : 0 ≤ 60019 * t * t ∧ 60019 * t * t ≤ 60019 * 1048576 * 1048576 := ⟨Int.mul_nonneg (by omega) ht0, Int.mul_le_mul (by omega) (by omega) ht0 (by decide)⟩
        have hm2' : 0 ≤ ((c.fmod 2147483549 + 31159 * t + 7001) ^ Int.toNat 5).fmod 2147483587 * (2 * t + 4153) ∧ ((c.fmod 2147483549 + 31159 * t + 7001) ^ Int.toNat 5).fmod 2147483587 * (2 * t + 4153) ≤ 2147483587 * (2 * 1048576 + 4153) := ⟨Int.mul_nonneg b2.1 (by omega), Int.mul_le_mul (by omega) (by omega) (by omega) (by decide)⟩
        refine ⟨_, rfl, _, rfl, _, _, rfl, rfl, .inl ⟨by decide, by decide⟩, _, _, rfl, rfl, _, _, rfl, rfl, .inl ⟨by omega, by omega⟩, _, rfl, _, _, rfl, rfl, .inl ⟨by decide, by decide⟩, _, rfl, _, _, rfl, rfl, .inl ⟨by omega, by omega⟩, _, _, rfl, rfl, _, _, rfl, rfl, _, _, rfl, rfl, ⟨by decide, by decide, by omega⟩, .inl ⟨_, rfl, _, _, rfl, rfl, (show (2147483629 : Int) ≠ 0 by decide), ?_⟩⟩
        exact ⟨_, rfl, _, _, rfl, rfl, ⟨by decide, by decide⟩, .inl ⟨_, rfl, _, rfl, _, _, rfl, rfl, by omega, fin _ _ W3 k3⟩⟩
end
end K00

namespace K00
open PySem PySem.Spec L2
def spWell (K : PySem.W.Frag) : Sp := fun vs H Q _ => ∃ (a : Addr) (ns : List Int), vs = [.ref a] ∧ SqL K H a (ns.map V.int) ∧ ns.length ≤ 63 ∧
  ∀ (p l : Addr) (ms : List Int) (H' : Hp), WellAt H' p l ms 0 → ms.length ≤ 60 → Same H H' → H p = none → Q (.ref p) H'
def spOne (K : PySem.W.Frag) : Sp := fun vs H Q _ => ∃ (a l b : Addr) (ns : List Int) (n : Nat) (xs : List V), vs = [.ref a, .ref b] ∧ a ≠ b ∧ WellAt H a l ns n ∧ n ≤ 1048576 ∧ ns.length ≤ 60 ∧ SqL K H b xs ∧ 0 < xs.length ∧ xs.length ≤ 1000000 ∧
  ∀ (x : V) (H' : Hp), x ∈ xs → WellAt H' a l ns (n + 1) → (∀ b, b ≠ a → (∀ o, H b = some o → H' b = some o)) → Q x H'
theorem lc_yes {σ : L2.St} {H : Hp} {A B : Hp → Prop} (h : A H) : tYes σ H (fun b H3 => if b = true then A H3 else B H3) := by
  show if true = true then A H else B H
  rw [if_pos rfl]
  exact h
theorem cut60 (ns : List Int) : cutV (ns.map V.int) none (some 60) = (ns.take 60).map V.int := by
  unfold cutV
  rw [HT.sIx_none, show (60 : Int) = ((60 : Nat) : Int) from rfl, HT.sIx_nat, List.drop_zero, Nat.sub_zero, List.length_map, ← List.map_take]
  congr 1
  by_cases h : 60 ≤ ns.length
  · rw [Nat.min_eq_left h]
  · rw [Nat.min_eq_right (by omega), List.take_of_length_le (Nat.le_refl _), List.take_of_length_le (by omega)]
theorem take_snoc {α : Type} {l : List α} {i : Nat} {x : α} (h : l[i]? = some x) : l.take (i + 1) = l.take i ++ [x] := by
  obtain ⟨hi, e⟩ := List.getElem?_eq_some_iff.mp h
  rw [List.take_succ, h]
  rfl
theorem same_upd {H H' : Hp} {p : Addr} {o : HO} (s : Same H H') (hp : H p = none) : Same H (upd H' p o) := fun b u e => by
  rw [upd_ne (ne_of_none e hp)]
  exact s b u e
section
variable {P : Program} {w : World} {K : PySem.W.Frag} {mg : Str → Option Value} {base : Heap}
theorem scW : FnScope ["script", "cell"] ["script"] (defScope sWell) := ⟨rfl, rfl, rfl, by decide +kernel, rfl, by decide +kernel, by decide +kernel⟩
theorem ok_well {f : Addr} {fd : FuncData} (F : Fun K "_law_well" "_law_well" sWell f fd) (T : TxtD mg) : FnOk P w K mg base CX0 1 f fd ["script"] (spWell K) := by
  refine F.ok scW (fun vs H Q E h => ?_) (fun cdv A outer s H vs Q E hr h => ?_)
  · obtain ⟨a, ns, rfl, _⟩ := h
    rfl
  · obtain ⟨a, ns, rfl, hS, hlen, k⟩ := h
    refine ⟨_, pss_one (ps_ret (pe_lst (pa_cons (pe_lc (own := [("cell", 1)]) (g := gName 1) (tt := tYes) rfl scW.nd (pi_list (pe_slice sl_list (pv 0) po_none (po_some pe_int))) (blkOk_by (N := ["script", "cell"]) (sc := defScope sWell) (by decide +kernel)) (fun _ _ _ _ _ => pg_name (i := 1) scW.nd rfl (Or.inl rfl)) (fun _ _ _ _ _ => pts_nil)
      (fun _ _ _ _ _ => pe_callTy call_int1 (by rfl) T.int (by decide +kernel) (pa_cons (pv 1) pa_nil))) (pa_cons pe_int (pa_cons pe_int pa_nil))))), ?_⟩
    refine ⟨_, rfl, _, rfl, a, _, rfl, hS, fun p hp => ⟨p, rfl, ⟨_, SqL.of upd_same⟩, fun D hD => ?_⟩⟩
    have ndp : p ≠ D := ne_of_none upd_same hD
    have hD0 : H D = none := by
      rw [upd_ne ndp.symm] at hD
      exact hD
    rw [cut60] at hD ⊢
    refine lc_list (K := K) (xs := (ns.take 60).map V.int) (fun i H' => H' p = some (.lst ((ns.take 60).map V.int)) ∧ H' D = some (.lst (((ns.take 60).take i).map V.int)) ∧ Same H H')
      ⟨by rw [upd_ne ndp, upd_same], upd_same, same_upd (same_upd (Same.refl H) hp) hD0⟩ (fun i H' _ z => SqL.of z.1) ?_ ?_
    · rintro i x H' hi ⟨h1, h2, h3⟩
      obtain ⟨m, hm, rfl⟩ : ∃ m, (ns.take 60)[i]? = some m ∧ x = V.int m := by
        rw [List.getElem?_map] at hi
        cases e : (ns.take 60)[i]? with
        | none =>
          rw [e] at hi
          cases hi
        | some m =>
          rw [e] at hi
          exact ⟨m, rfl, (Option.some.inj hi).symm⟩
      refine ⟨rfl, ?_⟩
      refine lc_yes ?_
      refine ⟨_, rfl, .inl ⟨_, rfl, _, h2, ?_, ?_⟩⟩
      · rw [List.length_map, List.length_take, List.length_take]
        exact Nat.lt_of_le_of_lt (show _ ≤ 60 by omega) (by decide)
      · refine ⟨by rw [upd_ne ndp]; exact h1, ?_, same_upd h3 hD0⟩
        rw [upd_same, take_snoc hm, List.map_append]
        rfl
    · rintro H' ⟨h1, h2, h3⟩
      rw [List.length_map, List.take_length] at h2
      refine ⟨by show 3 ≤ sizeLine; decide, fun q hq => ?_⟩
      have nqD : D ≠ q := ne_of_none h2 hq
      refine k q D (ns.take 60) _ ⟨nqD.symm, by rw [upd_ne nqD]; exact h2, 0, 0, Int.le_refl _, Int.le_refl _, Int.le_refl _, upd_same⟩ (by rw [List.length_take]; omega) (same_upd h3 (h3.free hq)) (h3.free hq)
theorem scO : FnScope ["well", "some"] ["well", "some"] (defScope sOne) := ⟨rfl, rfl, rfl, by decide +kernel, rfl, by decide +kernel, by decide +kernel⟩
theorem ok_one {f fD : Addr} {fd fdD : FuncData} (F : Fun K "_law_one" "_law_one" sOne f fd) (T : TxtD mg) (gD : mg "_law_draw" = some (.ref fD)) (FD : Fun K "_law_draw" "_law_draw" sDraw fD fdD) (bD : Binds K fdD ["well", "many"] []) : FnOk P w K mg base CX0 2 f fd ["well", "some"] (spOne K) := by
  have GD : FnOk P w K mg base CX0 1 fD fdD ["well", "many"] spDraw := ok_draw FD T
  refine F.ok scO (fun vs H Q E h => ?_) (fun cdv A outer s H vs Q E hr h => ?_)
  · obtain ⟨a, l, b, ns, n, xs, rfl, _⟩ := h
    rfl
  · obtain ⟨a, l, b, ns, n, xs, rfl, hab, hW, hn, hlen, hS, h0, hx, k⟩ := h
    refine ⟨_, pss_one (ps_ret (pe_ix ix_list (pv 1) (pe_call GD hr rfl gD FD.kp bD .nil pass0 (pa_cons (pv 0) (pa_cons (pe_callB call_len_seq (by rfl) T.len PySem.boot_len (pa_cons (pv 1) pa_nil)) pa_nil))) (fun _ _ => rfl))), ?_⟩
    refine ⟨_, rfl, _, rfl, _, rfl, b, _, rfl, .inl hS, a, l, ns, n, _, rfl, by omega, hW, hn, hlen, fun v H' hv0 hv1 W' k' => ?_⟩
    have hS' : SqL K H' b xs := by
      rcases hS with (h | ⟨o, h⟩) | h
      · exact .inl (.inl (k' b hab.symm _ h))
      · exact .inl (.inr ⟨o, k' b hab.symm _ h⟩)
      · exact .inr h
    obtain ⟨j, hj, hjl⟩ : ∃ j : Nat, v = (j : Int) ∧ j < xs.length := ⟨v.toNat, by omega, by omega⟩
    refine ⟨b, xs, _, xs[j], rfl, rfl, hS', ?_, k _ _ (List.getElem_mem hjl) W' k'⟩
    rw [hj]
    exact atI_nat (List.getElem?_eq_getElem hjl)
end
end K00

namespace K00
open PySem PySem.Spec L2 NdefX Fx
def nf (st : Stmt) (qual : Str) (cc c : Addr) : NF := ⟨"__init__", qual, defArgs st, defBody st, defScope st, [(("__class__" : Str), cc)], c⟩
abbrev sP : Stmt := inClass (top 2) 0
abbrev sT : Stmt := inClass (top 11) 0
abbrev sC : Stmt := inClass (top 12) 0
abbrev sM : Stmt := inClass (top 14) 0
section
variable {P : Program} {w : World} {K : PySem.W.Frag} {mg : Str → Option Value} {base : Heap} {fI D cc c : Addr} {fd : FuncData}
theorem ok_initP (T : SupTxt P K mg fI fd (nf sP "PartError.__init__" cc c) cc D) : FnOk P w K mg base CX0 1 fI fd ["self", "part"] (spInit1 K D fI "part") := by
  refine fn_super (k := 0) (N := ["self", "part", "__class__"]) T (nscope_by (show nscB _ _ _ (defScope sP) = true by decide +kernel)) rfl rfl (show (defScope sP).names.lookup ("super" : Str) = some .globalImplicit by decide +kernel) rfl (fun vs H Q E h => ?_) (fun A outer s H vs Q E hr h => ?_) (fun _ => rfl) (fun _ => rfl) (fun _ => rfl) (fun _ => rfl)
  · obtain ⟨a, C, y, rfl, _⟩ := h
    rfl
  · obtain ⟨a, C, y, rfl, TC, n1, ha, k⟩ := h
    refine ⟨_, _, pa_cons (pv 1) pa_nil, pss_one (ps_ost (pv 0) (pv 1)), a, C, rfl, TC, ha, _, rfl, by simp, ha, ?_⟩
    refine ⟨_, rfl, _, rfl, a, C, rfl, TC.toOexC, n1, .inl ⟨ha, fun d hd hda => k d _ ⟨hd, hda, upd_same, by rw [upd_ne hda, upd_same], fun b h1 h2 => by rw [upd_ne h1, upd_ne h2]⟩⟩⟩
theorem ok_initC (T : SupTxt P K mg fI fd (nf sC "BadCommand.__init__" cc c) cc D) : FnOk P w K mg base CX0 1 fI fd ["self", "word"] (spInit1 K D fI "word") := by
  refine fn_super (k := 0) (N := ["self", "word", "__class__"]) T (nscope_by (show nscB _ _ _ (defScope sC) = true by decide +kernel)) rfl rfl (show (defScope sC).names.lookup ("super" : Str) = some .globalImplicit by decide +kernel) rfl (fun vs H Q E h => ?_) (fun A outer s H vs Q E hr h => ?_) (fun _ => rfl) (fun _ => rfl) (fun _ => rfl) (fun _ => rfl)
  · obtain ⟨a, C, y, rfl, _⟩ := h
    rfl
  · obtain ⟨a, C, y, rfl, TC, n1, ha, k⟩ := h
    refine ⟨_, _, pa_cons (pv 1) pa_nil, pss_one (ps_ost (pv 0) (pv 1)), a, C, rfl, TC, ha, _, rfl, by simp, ha, ?_⟩
    refine ⟨_, rfl, _, rfl, a, C, rfl, TC.toOexC, n1, .inl ⟨ha, fun d hd hda => k d _ ⟨hd, hda, upd_same, by rw [upd_ne hda, upd_same], fun b h1 h2 => by rw [upd_ne h1, upd_ne h2]⟩⟩⟩
theorem ok_initT (T : SupTxt P K mg fI fd (nf sT "BadText.__init__" cc c) cc D) : FnOk P w K mg base CX0 1 fI fd ["self", "line", "word"] (spInit2 K D fI "line" "word") := by
  refine fn_super (k := 0) (N := ["self", "line", "word", "__class__"]) T (nscope_by (show nscB _ _ _ (defScope sT) = true by decide +kernel)) rfl rfl (show (defScope sT).names.lookup ("super" : Str) = some .globalImplicit by decide +kernel) rfl (fun vs H Q E h => ?_) (fun A outer s H vs Q E hr h => ?_) (fun _ => rfl) (fun _ => rfl) (fun _ => rfl) (fun _ => rfl)
  · obtain ⟨a, C, y, z, rfl, _⟩ := h
    rfl
  · obtain ⟨a, C, y, z, rfl, TC, n1, n2, ha, k⟩ := h
    refine ⟨_, _, pa_cons (pv 1) (pa_cons (pv 2) pa_nil), pss_cons (ps_ost (pv 0) (pv 1)) (pss_one (ps_ost (pv 0) (pv 2))), a, C, rfl, TC, ha, _, rfl, _, rfl, by simp, ha, ?_⟩
    refine ⟨_, rfl, _, rfl, a, C, rfl, TC.toOexC, n1, .inl ⟨ha, fun d hd hda => ?_⟩⟩
    refine ⟨_, rfl, _, rfl, a, C, rfl, TC.toOexC, n2, .inr ⟨d, _, upd_same, by rw [upd_ne hda, upd_same], by simp, k d _ ⟨hd, hda, by rw [upd_ne hda.symm, upd_same], upd_same, fun b h1 h2 => by rw [upd_ne h2, upd_ne h1, upd_ne h2]⟩⟩⟩
theorem ok_initM (T : SupTxt P K mg fI fd (nf sM "TooMany.__init__" cc c) cc D) : FnOk P w K mg base CX0 1 fI fd ["self", "what", "most"] (spInit2 K D fI "what" "most") := by
  refine fn_super (k := 0) (N := ["self", "what", "most", "__class__"]) T (nscope_by (show nscB _ _ _ (defScope sM) = true by decide +kernel)) rfl rfl (show (defScope sM).names.lookup ("super" : Str) = some .globalImplicit by decide +kernel) rfl (fun vs H Q E h => ?_) (fun A outer s H vs Q E hr h => ?_) (fun _ => rfl) (fun _ => rfl) (fun _ => rfl) (fun _ => rfl)
  · obtain ⟨a, C, y, z, rfl, _⟩ := h
    rfl
  · obtain ⟨a, C, y, z, rfl, TC, n1, n2, ha, k⟩ := h
    refine ⟨_, _, pa_cons (pv 1) (pa_cons (pv 2) pa_nil), pss_cons (ps_ost (pv 0) (pv 1)) (pss_one (ps_ost (pv 0) (pv 2))), a, C, rfl, TC, ha, _, rfl, _, rfl, by simp, ha, ?_⟩
    refine ⟨_, rfl, _, rfl, a, C, rfl, TC.toOexC, n1, .inl ⟨ha, fun d hd hda => ?_⟩⟩
    refine ⟨_, rfl, _, rfl, a, C, rfl, TC.toOexC, n2, .inr ⟨d, _, upd_same, by rw [upd_ne hda, upd_same], by simp, k d _ ⟨hd, hda, by rw [upd_ne hda.symm, upd_same], upd_same, fun b h1 h2 => by rw [upd_ne h2, upd_ne h1, upd_ne h2]⟩⟩⟩
end
end K00

namespace K00
open PySem PySem.Spec L2 NdefX Fx Gd
abbrev sCls : Stmt := top 19
abbrev sLaw : Stmt := top 20
/-- the classes' addresses, in the order that _law_classes asks -/
structure CA where
  cFace : Addr
  cMann : Addr
  cMatc : Addr
  cSpot : Addr
  cPlac : Addr
  cDriv : Addr
  cNumb : Addr
  cValu : Addr
  cText : Addr
  cComm : Addr
  cNoth : Addr
  cMany : Addr
  cPart : Addr
  cMErr : Addr
  fP : Addr
  fT : Addr
  fC : Addr
  fM : Addr
def CA.cs (c : CA) : List Addr := [c.cFace, c.cMann, c.cMatc, c.cSpot, c.cPlac, c.cDriv, c.cNumb, c.cValu, c.cText, c.cComm, c.cNoth, c.cMany]
def CA.inits (c : CA) : List (Option (Addr × Addr)) := [some (c.cPart, c.fP), some (c.cPart, c.fP), some (c.cPart, c.fP), some (c.cPart, c.fP), some (c.cPart, c.fP), some (c.cPart, c.fP), some (c.cPart, c.fP), some (c.cPart, c.fP), some (c.cText, c.fT), some (c.cComm, c.fC), none, some (c.cMany, c.fM)]
structure TxtE (K : PySem.W.Frag) (mg : Str → Option Value) (c : CA) : Prop where
  gcFace : mg "BadFace" = some (.ref c.cFace)
  gcMann : mg "BadManner" = some (.ref c.cMann)
  gcMatc : mg "BadMatch" = some (.ref c.cMatc)
  gcSpot : mg "BadSpot" = some (.ref c.cSpot)
  gcPlac : mg "BadPlace" = some (.ref c.cPlac)
  gcDriv : mg "BadDrive" = some (.ref c.cDriv)
  gcNumb : mg "BadNumber" = some (.ref c.cNumb)
  gcValu : mg "BadValue" = some (.ref c.cValu)
  gcText : mg "BadText" = some (.ref c.cText)
  gcComm : mg "BadCommand" = some (.ref c.cComm)
  gcNoth : mg "Nothing" = some (.ref c.cNoth)
  gcMany : mg "TooMany" = some (.ref c.cMany)
  acFace : ExAttr K c.cFace
  xcFace : XC K c.cFace c.cPart c.fP
  pcFace : PySem.W.findIn K (.ref c.cFace) "part" = some none
  acMann : ExAttr K c.cMann
  xcMann : XC K c.cMann c.cPart c.fP
  pcMann : PySem.W.findIn K (.ref c.cMann) "part" = some none
  acMatc : ExAttr K c.cMatc
  xcMatc : XC K c.cMatc c.cPart c.fP
  pcMatc : PySem.W.findIn K (.ref c.cMatc) "part" = some none
  acSpot : ExAttr K c.cSpot
  xcSpot : XC K c.cSpot c.cPart c.fP
  pcSpot : PySem.W.findIn K (.ref c.cSpot) "part" = some none
  acPlac : ExAttr K c.cPlac
  xcPlac : XC K c.cPlac c.cPart c.fP
  pcPlac : PySem.W.findIn K (.ref c.cPlac) "part" = some none
  acDriv : ExAttr K c.cDriv
  xcDriv : XC K c.cDriv c.cPart c.fP
  pcDriv : PySem.W.findIn K (.ref c.cDriv) "part" = some none
  acNumb : ExAttr K c.cNumb
  xcNumb : XC K c.cNumb c.cPart c.fP
  pcNumb : PySem.W.findIn K (.ref c.cNumb) "part" = some none
  acValu : ExAttr K c.cValu
  xcValu : XC K c.cValu c.cPart c.fP
  pcValu : PySem.W.findIn K (.ref c.cValu) "part" = some none
  acText : ExAttr K c.cText
  acComm : ExAttr K c.cComm
  acNoth : ExAttr K c.cNoth
  acMany : ExAttr K c.cMany
  xcText : XC K c.cText c.cText c.fT
  p1cText : PySem.W.findIn K (.ref c.cText) "line" = some none
  p2cText : PySem.W.findIn K (.ref c.cText) "word" = some none
  xcComm : XC K c.cComm c.cComm c.fC
  p1cComm : PySem.W.findIn K (.ref c.cComm) "word" = some none
  xcMany : XC K c.cMany c.cMany c.fM
  p1cMany : PySem.W.findIn K (.ref c.cMany) "what" = some none
  p2cMany : PySem.W.findIn K (.ref c.cMany) "most" = some none
  qcNoth : PySem.W.excIn K c.cNoth [.type "ValueError", .type "Exception", .type "BaseException", .type "object"] "ValueError.__new__" = true
  kcNoth : PySem.W.keepIn K (.ref c.cNoth) = true
  gcPart : mg "PartError" = some (.ref c.cPart)
  gcMErr : mg "MatchError" = some (.ref c.cMErr)
  kit : ∀ i j : Nat, i < 12 → j < 12 → PySem.W.kitOne K (.ref (c.cs.getD i 0)) (.ref (c.cs.getD j 0)) = some (decide (i = j))
  kitP : ∀ i : Nat, i < 12 → PySem.W.kitOne K (.ref (c.cs.getD i 0)) (.ref c.cPart) = some (decide (i < 8))
  kitM : ∀ i : Nat, i < 12 → PySem.W.kitOne K (.ref (c.cs.getD i 0)) (.ref c.cMErr) = some true
  kitV : ∀ i : Nat, i < 12 → PySem.W.kitOne K (.ref (c.cs.getD i 0)) (.type "ValueError") = some true
  isi : mg "isinstance" = none
  rep : mg "repr" = none
  enm : mg "enumerate" = none
  rng : mg "range" = none
  vle : mg "ValueError" = none
  tP : PySem.W.typeIn K (.ref c.fP) = some (.type "function")
  tT : PySem.W.typeIn K (.ref c.fT) = some (.type "function")
  tC : PySem.W.typeIn K (.ref c.fC) = some (.type "function")
  tM : PySem.W.typeIn K (.ref c.fM) = some (.type "function")
/-- error, at a, is of the class j of the twelve -/
def spCls (K : PySem.W.Frag) (c : CA) : Sp := fun vs H Q _ => ∃ (a : Addr) (j : Nat), vs = [.ref a] ∧ j < 12 ∧ ExAtC H a (c.cs.getD j 0) ∧ ∀ (p : Addr) (H' : Hp), Same H H' → H p = none → H' p = some (.lst ((List.range 12).map fun i => V.bl (decide (j = i)))) → Q (.ref p) H'
theorem exAtSame {H H' : Hp} {a C : Addr} (h : ExAtC H a C) (s : Same H H') : ExAtC H' a C := by
  rcases h with h | ⟨d, fs, h1, h2⟩
  · exact .inl (s _ _ h)
  · exact .inr ⟨d, fs, s _ _ h1, s _ _ h2⟩
section
variable {P : Program} {w : World} {K : PySem.W.Frag} {mg : Str → Option Value} {base : Heap} {c : CA}
theorem TxtE.att (T : TxtE K mg c) {j : Nat} (hj : j < 12) : ExAttr K (c.cs.getD j 0) := by
  match j, hj with
  | 0, _ => exact T.acFace
  | 1, _ => exact T.acMann
  | 2, _ => exact T.acMatc
  | 3, _ => exact T.acSpot
  | 4, _ => exact T.acPlac
  | 5, _ => exact T.acDriv
  | 6, _ => exact T.acNumb
  | 7, _ => exact T.acValu
  | 8, _ => exact T.acText
  | 9, _ => exact T.acComm
  | 10, _ => exact T.acNoth
  | 11, _ => exact T.acMany
theorem TxtE.part (T : TxtE K mg c) {j : Nat} (hj : j < 8) : PySem.W.findIn K (.ref (c.cs.getD j 0)) "part" = some none := by
  match j, hj with
  | 0, _ => exact T.pcFace
  | 1, _ => exact T.pcMann
  | 2, _ => exact T.pcMatc
  | 3, _ => exact T.pcSpot
  | 4, _ => exact T.pcPlac
  | 5, _ => exact T.pcDriv
  | 6, _ => exact T.pcNumb
  | 7, _ => exact T.pcValu
theorem scK : FnScope ["error", "found"] ["error"] (defScope sCls) := ⟨rfl, rfl, rfl, by decide +kernel, rfl, by decide +kernel, by decide +kernel⟩
theorem ok_cls {f : Addr} {fd : FuncData} (F : Fun K "_law_classes" "_law_classes" sCls f fd) (T : TxtE K mg c) : FnOk P w K mg base CX0 1 f fd ["error"] (spCls K c) := by
  refine F.ok scK (fun vs H Q E h => ?_) (fun cdv A outer s H vs Q E hr h => ?_)
  · obtain ⟨a, j, rfl, _⟩ := h
    rfl
  · obtain ⟨a, j, rfl, hj, hx, k⟩ := h
    have hA := T.att hj
    refine ⟨_, pss_cons (ps_set (i := 1) scK.nd rfl (Or.inl rfl) (pe_lst (pa_cons (pe_callB call_isX (by rfl) T.isi (by decide +kernel) (pa_cons (pv 0) (pa_cons (pe_glob (v := .ref c.cFace) rfl T.gcFace rfl) pa_nil))) (pa_cons (pe_callB call_isX (by rfl) T.isi (by decide +kernel) (pa_cons (pv 0) (pa_cons (pe_glob (v := .ref c.cMann) rfl T.gcMann rfl) pa_nil))) (pa_cons (pe_callB call_isX (by rfl) T.isi (by decide +kernel) (pa_cons (pv 0) (pa_cons (pe_glob (v := .ref c.cMatc) rfl T.gcMatc rfl) pa_nil))) (pa_cons (pe_callB call_isX (by rfl) T.isi (by decide +kernel) (pa_cons (pv 0) (pa_cons (pe_glob (v := .ref c.cSpot) rfl T.gcSpot rfl) pa_nil))) (pa_cons (pe_callB call_isX (by rfl) T.isi (by decide +kernel) (pa_cons (pv 0) (pa_cons (pe_glob (v := .ref c.cPlac) rfl T.gcPlac rfl) pa_nil))) pa_nil)))))))
      (pss_cons (ps_set (i := 1) scK.nd rfl (Or.inl rfl) (pe_op op_cat (pv 1) (pe_lst (pa_cons (pe_callB call_isX (by rfl) T.isi (by decide +kernel) (pa_cons (pv 0) (pa_cons (pe_glob (v := .ref c.cDriv) rfl T.gcDriv rfl) pa_nil))) (pa_cons (pe_callB call_isX (by rfl) T.isi (by decide +kernel) (pa_cons (pv 0) (pa_cons (pe_glob (v := .ref c.cNumb) rfl T.gcNumb rfl) pa_nil))) (pa_cons (pe_callB call_isX (by rfl) T.isi (by decide +kernel) (pa_cons (pv 0) (pa_cons (pe_glob (v := .ref c.cValu) rfl T.gcValu rfl) pa_nil))) (pa_cons (pe_callB call_isX (by rfl) T.isi (by decide +kernel) (pa_cons (pv 0) (pa_cons (pe_glob (v := .ref c.cText) rfl T.gcText rfl) pa_nil))) pa_nil)))))))
      (pss_one (ps_ret (pe_op op_cat (pv 1) (pe_lst (pa_cons (pe_callB call_isX (by rfl) T.isi (by decide +kernel) (pa_cons (pv 0) (pa_cons (pe_glob (v := .ref c.cComm) rfl T.gcComm rfl) pa_nil))) (pa_cons (pe_callB call_isX (by rfl) T.isi (by decide +kernel) (pa_cons (pv 0) (pa_cons (pe_glob (v := .ref c.cNoth) rfl T.gcNoth rfl) pa_nil))) (pa_cons (pe_callB call_isX (by rfl) T.isi (by decide +kernel) (pa_cons (pv 0) (pa_cons (pe_glob (v := .ref c.cMany) rfl T.gcMany rfl) pa_nil))) pa_nil)))))))), ?_⟩
    refine ⟨_, rfl, a, c.cs.getD j 0, .ref c.cFace, .ref c.cFace, _, rfl, hx, hA, fun u z => z, T.kit j 0 hj (by decide), ?_⟩
    refine ⟨_, rfl, a, c.cs.getD j 0, .ref c.cMann, .ref c.cMann, _, rfl, hx, hA, fun u z => z, T.kit j 1 hj (by decide), ?_⟩
    refine ⟨_, rfl, a, c.cs.getD j 0, .ref c.cMatc, .ref c.cMatc, _, rfl, hx, hA, fun u z => z, T.kit j 2 hj (by decide), ?_⟩
    refine ⟨_, rfl, a, c.cs.getD j 0, .ref c.cSpot, .ref c.cSpot, _, rfl, hx, hA, fun u z => z, T.kit j 3 hj (by decide), ?_⟩
    refine ⟨_, rfl, a, c.cs.getD j 0, .ref c.cPlac, .ref c.cPlac, _, rfl, hx, hA, fun u z => z, T.kit j 4 hj (by decide), ?_⟩
    refine ⟨by show 5 ≤ sizeLine; decide, fun p1 n1 => ?_⟩
    refine ⟨_, rfl, ?_⟩
    have s1 : Same H (upd H p1 (.lst [.bl (decide (j = 0)), .bl (decide (j = 1)), .bl (decide (j = 2)), .bl (decide (j = 3)), .bl (decide (j = 4))])) := same_upd (Same.refl H) n1
    have e1 : upd H p1 (.lst [.bl (decide (j = 0)), .bl (decide (j = 1)), .bl (decide (j = 2)), .bl (decide (j = 3)), .bl (decide (j = 4))]) p1 = some (.lst [.bl (decide (j = 0)), .bl (decide (j = 1)), .bl (decide (j = 2)), .bl (decide (j = 3)), .bl (decide (j = 4))]) := upd_same
    revert s1 e1
    generalize upd H p1 (.lst [.bl (decide (j = 0)), .bl (decide (j = 1)), .bl (decide (j = 2)), .bl (decide (j = 3)), .bl (decide (j = 4))]) = H1
    intro s1 e1
    replace hx := exAtSame hx s1
    refine ⟨_, rfl, a, c.cs.getD j 0, .ref c.cDriv, .ref c.cDriv, _, rfl, hx, hA, fun u z => z, T.kit j 5 hj (by decide), ?_⟩
    refine ⟨_, rfl, a, c.cs.getD j 0, .ref c.cNumb, .ref c.cNumb, _, rfl, hx, hA, fun u z => z, T.kit j 6 hj (by decide), ?_⟩
    refine ⟨_, rfl, a, c.cs.getD j 0, .ref c.cValu, .ref c.cValu, _, rfl, hx, hA, fun u z => z, T.kit j 7 hj (by decide), ?_⟩
    refine ⟨_, rfl, a, c.cs.getD j 0, .ref c.cText, .ref c.cText, _, rfl, hx, hA, fun u z => z, T.kit j 8 hj (by decide), ?_⟩
    refine ⟨by show 4 ≤ sizeLine; decide, fun p2 n2 => ?_⟩
    refine ⟨p1, p2, _, _, rfl, rfl, by rw [upd_ne (ne_of_none e1 n2)]; exact e1, upd_same, by show 9 ≤ sizeLine; decide, fun p3 n3 => ?_⟩
    have s3 : Same H1 (upd (upd H1 p2 (.lst [.bl (decide (j = 5)), .bl (decide (j = 6)), .bl (decide (j = 7)), .bl (decide (j = 8))])) p3 (.lst ([.bl (decide (j = 0)), .bl (decide (j = 1)), .bl (decide (j = 2)), .bl (decide (j = 3)), .bl (decide (j = 4))] ++ [.bl (decide (j = 5)), .bl (decide (j = 6)), .bl (decide (j = 7)), .bl (decide (j = 8))]))) :=
      same_upd (same_upd (Same.refl H1) n2) ((same_upd (Same.refl H1) n2).free n3)
    refine ⟨_, rfl, ?_⟩
    have e3 : upd (upd H1 p2 (.lst [.bl (decide (j = 5)), .bl (decide (j = 6)), .bl (decide (j = 7)), .bl (decide (j = 8))])) p3 (.lst ([.bl (decide (j = 0)), .bl (decide (j = 1)), .bl (decide (j = 2)), .bl (decide (j = 3)), .bl (decide (j = 4))] ++ [.bl (decide (j = 5)), .bl (decide (j = 6)), .bl (decide (j = 7)), .bl (decide (j = 8))])) p3 = some (.lst ([.bl (decide (j = 0)), .bl (decide (j = 1)), .bl (decide (j = 2)), .bl (decide (j = 3)), .bl (decide (j = 4))] ++ [.bl (decide (j = 5)), .bl (decide (j = 6)), .bl (decide (j = 7)), .bl (decide (j = 8))])) := upd_same
    replace s1 := s1.trans s3
    replace hx := exAtSame hx s3
    revert s1 e3 hx
    generalize upd (upd H1 p2 (.lst [.bl (decide (j = 5)), .bl (decide (j = 6)), .bl (decide (j = 7)), .bl (decide (j = 8))])) p3 (.lst ([.bl (decide (j = 0)), .bl (decide (j = 1)), .bl (decide (j = 2)), .bl (decide (j = 3)), .bl (decide (j = 4))] ++ [.bl (decide (j = 5)), .bl (decide (j = 6)), .bl (decide (j = 7)), .bl (decide (j = 8))])) = H3
    intro e3 s1 hx
    refine ⟨_, rfl, a, c.cs.getD j 0, .ref c.cComm, .ref c.cComm, _, rfl, hx, hA, fun u z => z, T.kit j 9 hj (by decide), ?_⟩
    refine ⟨_, rfl, a, c.cs.getD j 0, .ref c.cNoth, .ref c.cNoth, _, rfl, hx, hA, fun u z => z, T.kit j 10 hj (by decide), ?_⟩
    refine ⟨_, rfl, a, c.cs.getD j 0, .ref c.cMany, .ref c.cMany, _, rfl, hx, hA, fun u z => z, T.kit j 11 hj (by decide), ?_⟩
    refine ⟨by show 3 ≤ sizeLine; decide, fun p4 n4 => ?_⟩
    refine ⟨p3, p4, _, _, rfl, rfl, by rw [upd_ne (ne_of_none e3 n4)]; exact e3, upd_same, by show 12 ≤ sizeLine; decide, fun p5 n5 => ?_⟩
    have s4 := same_upd (o := .lst [.bl (decide (j = 9)), .bl (decide (j = 10)), .bl (decide (j = 11))]) s1 (s1.free n4)
    exact k p5 _ (same_upd s4 (s4.free n5)) (s4.free n5) upd_same
end
end K00

/-! Steps of readings: what is new stands beside what was. -/
namespace Stp
open PySem PySem.Spec L2 Gd Fx
theorem same_upd {H H' : Hp} {p : Addr} {o : HO} (s : Same H H') (hp : H' p = none) : Same H (upd H' p o) := fun b u e => by
  rw [upd_ne (ne_of_none (s b u e) hp)]
  exact s b u e
theorem same1 {H : Hp} {p : Addr} {o : HO} (hp : H p = none) : Same H (upd H p o) := same_upd (Same.refl H) hp
theorem yes {σ : L2.St} {H : Hp} {A B : Hp → Prop} (h : A H) : tYes σ H (fun b H3 => if b = true then A H3 else B H3) := by
  show if true = true then A H else B H
  rw [if_pos rfl]
  exact h
theorem neSelf {x : V} {A B : Prop} (h : B) : if (!decide (x = x)) = true then A else B := by
  rw [decide_eq_true (rfl : x = x), if_neg (by decide)]
  exact h
section
variable {H : Hp} {Q : VK} {xs ys : List V}
theorem lst (hz : xs.length ≤ 1000000) (h : ∀ p H', H p = none → Same H H' → H' p = some (.lst xs) → Q (.ref p) H') : xs.length ≤ sizeLine ∧ ∀ p, H p = none → Q (.ref p) (upd H p (.lst xs)) :=
  ⟨Nat.le_trans hz (by decide), fun p hp => h p _ hp (same1 hp) upd_same⟩
theorem tup (hz : xs.length ≤ 1000000) (h : ∀ p H', H p = none → Same H H' → H' p = some (.tup xs) → Q (.ref p) H') : xs.length ≤ sizeLine ∧ ∀ p, H p = none → Q (.ref p) (upd H p (.tup xs)) :=
  ⟨Nat.le_trans hz (by decide), fun p hp => h p _ hp (same1 hp) upd_same⟩
theorem cat {l b : Addr} (hl : H l = some (.lst xs)) (hb : H b = some (.lst ys)) (hz : xs.length + ys.length ≤ 1000000) (h : ∀ p H', H p = none → Same H H' → H' p = some (.lst (xs ++ ys)) → Q (.ref p) H') : rCat (.ref l) (.ref b) H Q :=
  ⟨l, b, xs, ys, rfl, rfl, hl, hb, Nat.le_trans hz (by decide), fun p hp => h p _ hp (same1 hp) upd_same⟩
theorem rep {l : Addr} {k : Nat} (hl : H l = some (.lst xs)) (hz : xs.length * k ≤ 1000000) (hk : k ≤ 1000000) (h : ∀ p H', H p = none → Same H H' → H' p = some (.lst (List.replicate k xs).flatten) → Q (.ref p) H') : rRep (.ref l) (.int (k : Int)) H Q :=
  ⟨l, k, xs, rfl, rfl, hl, by omega, by omega, by simpa using Nat.le_trans hz (by decide), fun p hp => h p _ hp (same1 hp) (by rw [upd_same]; simp)⟩
end
/-! ### an exception made -/
section
variable {K : PySem.W.Frag} {C D fI : Addr} {f g : Str} {y z : V} {H : Hp} {Q : VK}
theorem made_same {H H' : Hp} {a C d : Addr} {fs : List (Str × V)} (hn : H a = none) (M : MadeX (upd H a (exo a C none)) H' a C d fs) : Same H H' ∧ H' a = some (exo a C (some d)) ∧ H' d = some (exd d fs) := by
  obtain ⟨h1, h2, h3, h4, h5⟩ := M
  refine ⟨fun b o e => ?_, h3, h4⟩
  have na : b ≠ a := ne_of_none e hn
  have nd : b ≠ d := ne_of_none e (by rw [upd_ne h2] at h1; exact h1)
  rw [h5 b na nd, upd_ne na]
  exact e
/-- what is told of an exception that is held: its class, its fields -/
def ExV (H : Hp) (a C : Addr) (fs : List (Str × V)) : Prop := ∃ d, H a = some (exo a C (some d)) ∧ H d = some (exd d fs)
theorem ExV.same {H H' : Hp} {a C : Addr} {fs : List (Str × V)} (h : ExV H a C fs) (s : Same H H') : ExV H' a C fs := by
  obtain ⟨d, h1, h2⟩ := h
  exact ⟨d, s _ _ h1, s _ _ h2⟩
theorem ExV.put {H : Hp} {a C p : Addr} {fs : List (Str × V)} {xs ys : List V} (h : ExV H a C fs) (hp : H p = some (.lst xs)) : ExV (upd H p (.lst ys)) a C fs := by
  obtain ⟨d, h1, h2⟩ := h
  refine ⟨d, ?_, ?_⟩
  · rw [upd_ne fun e => by rw [e, hp] at h1; cases h1]
    exact h1
  · rw [upd_ne fun e => by rw [e, hp] at h2; cases h2]
    exact h2
theorem ExV.at {H : Hp} {a C : Addr} {fs : List (Str × V)} (h : ExV H a C fs) : ExAtC H a C := by
  obtain ⟨d, h1, h2⟩ := h
  exact .inr ⟨d, fs, h1, h2⟩
theorem mk1 (TC : XC K C D fI) (n1 : PySem.W.findIn K (.ref C) f = some none) (h : ∀ a H', Same H H' → ExV H' a C [(f, y)] → Q (.ref a) H') :
    ∀ a, H a = none → spInit1 K D fI f [.ref a, y] (upd H a (exo a C none)) (fun v H3 => v = .non ∧ Q (.ref a) H3) (fun _ _ _ => False) := fun a na =>
  ⟨a, C, y, rfl, TC, n1, upd_same, fun d H' M => by
    obtain ⟨s, h3, h4⟩ := made_same na M
    exact ⟨rfl, h a H' s ⟨d, h3, h4⟩⟩⟩
theorem mk2 (TC : XC K C D fI) (n1 : PySem.W.findIn K (.ref C) f = some none) (n2 : PySem.W.findIn K (.ref C) g = some none) (h : ∀ a H', Same H H' → ExV H' a C [(g, z), (f, y)] → Q (.ref a) H') :
    ∀ a, H a = none → spInit2 K D fI f g [.ref a, y, z] (upd H a (exo a C none)) (fun v H3 => v = .non ∧ Q (.ref a) H3) (fun _ _ _ => False) := fun a na =>
  ⟨a, C, y, z, rfl, TC, n1, n2, upd_same, fun d H' M => by
    obtain ⟨s, h3, h4⟩ := made_same na M
    exact ⟨rfl, h a H' s ⟨d, h3, h4⟩⟩⟩
theorem mk0 (h : ∀ a H', Same H H' → H' a = some (exo a C none) → Q (.ref a) H') : ∀ a, H a = none → Q (.ref a) (upd H a (exo a C none)) := fun a na => h a _ (same1 na) upd_same
end
/-! ### data -/
mutual
theorem dp_same {K : PySem.W.Frag} {H H' : Hp} (s : Same H H') : ∀ (d : PyData) (v : V), Dp K H v d → Dp K H' v d
  | .none, _, h => by cases h; exact .non
  | .bool _, _, h => by cases h; exact .bl _
  | .int _, _, h => by cases h; exact .int _
  | .str _, _, h => by cases h; exact .str _
  | .list ds, _, h => by
    cases h with
    | lst hs ha => exact .lst (s.seq hs) (dp_sameAll s ds _ ha)
  | .tuple ds, _, h => by
    cases h with
    | tup hs ha => exact .tup (seqT s hs) (dp_sameAll s ds _ ha)
  | .dict _, _, h => by cases h
theorem dp_sameAll {K : PySem.W.Frag} {H H' : Hp} (s : Same H H') : ∀ (ds : List PyData) (vs : List V), DpAll K H vs ds → DpAll K H' vs ds
  | [], _, h => by cases h; exact .nil
  | d :: ds, _, h => by
    cases h with
    | cons h1 h2 => exact .cons (dp_same s d _ h1) (dp_sameAll s ds _ h2)
theorem seqT {K : PySem.W.Frag} {H H' : Hp} {a : Addr} {xs : List V} (e : Same H H') (h : SqT K H a xs) : SqT K H' a xs := by
  rcases h with (h | ⟨o, h⟩) | h
  · exact .inl (.inl (e _ _ h))
  · exact .inl (.inr ⟨o, e _ _ h⟩)
  · exact .inr h
end
/-- data without dicts, or the dict {"a": 1} -/
def OneD (K : PySem.W.Frag) (H : Hp) (v : V) (d : PyData) : Prop := (Dp K H v d ∧ d.hasDict = false) ∨ ∃ a, v = .ref a ∧ H a = some (.dK [(.inr "a", .int 1)]) ∧ d = .dict [(.str "a", .int 1)]
theorem OneD.same {K : PySem.W.Frag} {H H' : Hp} {v : V} {d : PyData} (h : OneD K H v d) (s : Same H H') : OneD K H' v d := by
  rcases h with ⟨h1, h2⟩ | ⟨a, h1, h2, h3⟩
  · exact .inl ⟨dp_same s d v h1, h2⟩
  · exact .inr ⟨a, h1, s _ _ h2, h3⟩
end Stp

/-! Rules whose readings leave the new heap open: it is told of by what stands in it. -/
namespace Stp
open PySem PySem.Spec PyProof.Rows L2 Gd Fx
theorem pe_to {X : Cx} {e : Expr} {t t' : TE} (h : PE X e t) (k : ∀ σ H Q, t' σ H Q → t σ H Q) : PE X e t' := ⟨fun pins s σ H Q I q => h.run pins s σ H Q I (k σ H Q q)⟩
theorem op_to {X : Cx} {f : Value → Value → Sem Value} {r r' : R2} (h : OpR X f r) (k : ∀ x y H Q, r' x y H Q → r x y H Q) : OpR X f r' := fun pins s σ H x y v u Q I rx ry q => h pins s σ H x y v u Q I rx ry (k x y H Q q)
def tLstN (t : TA) : TE := fun σ H Q => t σ H fun xs H1 => xs.length ≤ 1000000 ∧ ∀ p H', H1 p = none → Same H1 H' → H' p = some (.lst xs) → Q (.ref p) H'
def tTupN (t : TA) : TE := fun σ H Q => t σ H fun xs H1 => xs.length ≤ 1000000 ∧ ∀ p H', H1 p = none → Same H1 H' → H' p = some (.tup xs) → Q (.ref p) H'
section
variable {X : Cx} {es : List Expr} {t : TA} {pos : Pos}
theorem pe_lstN (h : PA X es t) : PE X (.List es pos) (tLstN t) := by
  refine ⟨fun pins s σ H Q I hq => ?_⟩
  refine wpAny_List_spliced (thn (h.run pos pins s σ H _ I hq) fun us s1 ⟨xs, H1, I1, r, z, q⟩ => ⟨by rw [← r.length]; exact Nat.le_trans z (by decide), ?_⟩)
  have hf : H1 s1.heap.objs.size = none := I1.hok.fresh (Nat.le_refl _)
  refine ⟨.ref s1.heap.objs.size, upd H1 s1.heap.objs.size (.lst xs), I1.laid (t' := s1.toks) (fun b u e => Heap.get?_push_of_some _ e) (Nat.le_refl _) ?_, rfl, q _ _ hf (same1 hf) upd_same⟩
  exact ⟨Nat.le_trans z (by decide), us, 0, r, Heap.get?_push_size _ rfl⟩
theorem pe_tupN {x1} (h : PA X es t) : PE X (.Tuple es x1 pos) (tTupN t) := by
  refine ⟨fun pins s σ H Q I hq => ?_⟩
  refine wpAny_Tuple_spliced (thn (h.run pos pins s σ H _ I hq) fun us s1 ⟨xs, H1, I1, r, z, q⟩ => ⟨by rw [← r.length]; exact Nat.le_trans z (by decide), ?_⟩)
  have hf : H1 s1.heap.objs.size = none := I1.hok.fresh (Nat.le_refl _)
  refine ⟨.ref s1.heap.objs.size, upd H1 s1.heap.objs.size (.tup xs), I1.laid (t' := s1.toks) (fun b u e => Heap.get?_push_of_some _ e) (Nat.le_refl _) ?_, rfl, q _ _ hf (same1 hf) upd_same⟩
  exact ⟨Nat.le_trans z (by decide), us, r, ⟨_, Heap.get?_push_size _ rfl, rfl, _, rfl⟩⟩
def tDict1 (k : Key) (v : V) : TE := fun σ H Q => ∀ p H', H p = none → Same H H' → H' p = some (.dK [(k, v)]) → Q (.ref p) H'
theorem dict1 {e : Expr} {tk tv : TE} {k : Key} {v : V} (h : PE X e (tDisp [(tk, tv)])) (hp : ∀ σ H R, R [(kV k, v)] H → tPairs [(tk, tv)] σ H R) : PE X e (tDict1 k v) := pe_to h fun σ H Q q p np => hp σ _ _ ⟨upd_same, [(k, v)], rfl, by simp, by
  rw [upd_upd]
  exact q p _ np (same1 np) upd_same⟩
def rCatN : R2 := fun x y H Q => ∃ l b xs ys, x = .ref l ∧ y = .ref b ∧ H l = some (.lst xs) ∧ H b = some (.lst ys) ∧ xs.length + ys.length ≤ 1000000 ∧ ∀ p H', H p = none → Same H H' → H' p = some (.lst (xs ++ ys)) → Q (.ref p) H'
theorem op_catN : OpR X (binaryOp .Add) rCatN := op_to op_cat fun x y H Q ⟨l, b, xs, ys, e1, e2, h1, h2, z, q⟩ => ⟨l, b, xs, ys, e1, e2, h1, h2, Nat.le_trans z (by decide), fun p hp => q p _ hp (same1 hp) upd_same⟩
/-- [x] * k -/
def rRepN : R2 := fun x y H Q => ∃ (l : Addr) (k : Nat) (z : V), x = .ref l ∧ y = .int (k : Int) ∧ H l = some (.lst [z]) ∧ k ≤ 1000000 ∧ ∀ p H', H p = none → Same H H' → H' p = some (.lst (List.replicate k z)) → Q (.ref p) H'
theorem flat1 {α : Type} (z : α) : ∀ k : Nat, (List.replicate k [z]).flatten = List.replicate k z
  | 0 => rfl
  | k + 1 => by rw [List.replicate_succ, List.replicate_succ, List.flatten_cons, flat1 z k]; rfl
theorem op_repN : OpR X (binaryOp .Mult) rRepN := op_to op_rep fun x y H Q ⟨l, k, z, e1, e2, h1, hk, q⟩ => ⟨l, (k : Int), [z], e1, e2, h1, by omega, by omega, by
  rw [Int.toNat_natCast, List.length_singleton, Nat.one_mul]
  exact Nat.le_trans hk (by decide), fun p hp => q p _ hp (same1 hp) (by rw [upd_same, Int.toNat_natCast, flat1])⟩
end
/-! ### an exception as a value -/
section
variable {X : Cx} {CX : CXT} {k n : Nat} {fI C D : Addr} {fd : FuncData} {ps ks : List Str} {x f g : Str} {p pos : Pos} {e : Expr} {es : List Expr} {kws : List Keyword} {t tk : TA} {gg : List Value → List Value → List Value} {gV : List V → List V → List V}
/-- C(y), the field f = y -/
def tEx1 (C : Addr) (f : Str) (t : TA) : TE := fun σ H Q => t σ H fun vs H1 => ∃ y : V, vs = [y] ∧ ∀ a H', Same H1 H' → ExV H' a C [(f, y)] → Q (.ref a) H'
/-- C(y, z), the fields f = y, g = z -/
def tEx2 (C : Addr) (f g : Str) (t : TA) : TE := fun σ H Q => t σ H fun vs H1 => ∃ y z : V, vs = [y, z] ∧ ∀ a H', Same H1 H' → ExV H' a C [(g, z), (f, y)] → Q (.ref a) H'
/-- C(g = z, f = y), written so -/
def tEx2R (C : Addr) (f g : Str) (t : TA) : TE := fun σ H Q => t σ H fun vs H1 => ∃ y z : V, vs = [z, y] ∧ ∀ a H', Same H1 H' → ExV H' a C [(g, z), (f, y)] → Q (.ref a) H'
theorem pe_ex1 (T : OexC X.K C) (iC : PySem.W.findIn X.K (.ref C) "__init__" = some (some (.ref fI))) (tI : PySem.W.typeIn X.K (.ref fI) = some (.type "function"))
    (F1 : FnOk X.prog X.w X.K X.mg X.base CX k fI fd ps (spInit1 X.K D fI f)) (XT : XC X.K C D fI) (n1 : PySem.W.findIn X.K (.ref C) f = some none) (hr : Room (k + 1) X.A) (hg : Gl X x) (hm : X.mg x = some (.ref C))
    (hb : KBn X.K fd ps (1 + 1) ([] : List Str) (fun us _ => us) (fun vs _ => vs)) (hx : Passes CX X (fun _ _ _ => False)) (ha : PA X (e :: es) t)
    (hdb : (x == ("__debug__" : Str)) = false := by decide) (he : starEach (e :: es) X.env = (false, eval e X.env) :: starEach es X.env := by rfl) (hpl : (backTo pos (starEach es X.env)).any (·.1) = false := by rfl) :
    PE X (.Call (.Name x p) (e :: es) [] pos) (tEx1 C f t) := by
  refine ⟨fun pins s σ H Q I h => ?_⟩
  refine wpAny_Call_Name_kw (ld_glob I hg hm ?_ hdb)
  refine PySem.W.callWith_K (h₀ := X.base) I.ok.mod.kin T.kC (thn (ha.run pos pins s σ H _ I h) fun us s1 ⟨vs, H1, I1, r, y, ey, q⟩ => ⟨I1.kIn, ?_⟩) he hpl
  subst ey
  show wpAny _ _ (call (.ref C) us) _ _ _
  exact run_exv (ws := []) (ks := []) T iC tI F1 hr hb hx I1 r .nil rfl rfl (by decide) (mk1 XT n1 q)
theorem pe_ex2 (T : OexC X.K C) (iC : PySem.W.findIn X.K (.ref C) "__init__" = some (some (.ref fI))) (tI : PySem.W.typeIn X.K (.ref fI) = some (.type "function"))
    (F1 : FnOk X.prog X.w X.K X.mg X.base CX k fI fd ps (spInit2 X.K D fI f g)) (XT : XC X.K C D fI) (n1 : PySem.W.findIn X.K (.ref C) f = some none) (n2 : PySem.W.findIn X.K (.ref C) g = some none) (hr : Room (k + 1) X.A) (hg : Gl X x) (hm : X.mg x = some (.ref C))
    (hb : KBn X.K fd ps (2 + 1) ([] : List Str) (fun us _ => us) (fun vs _ => vs)) (hx : Passes CX X (fun _ _ _ => False)) (ha : PA X (e :: es) t)
    (hdb : (x == ("__debug__" : Str)) = false := by decide) (he : starEach (e :: es) X.env = (false, eval e X.env) :: starEach es X.env := by rfl) (hpl : (backTo pos (starEach es X.env)).any (·.1) = false := by rfl) :
    PE X (.Call (.Name x p) (e :: es) [] pos) (tEx2 C f g t) := by
  refine ⟨fun pins s σ H Q I h => ?_⟩
  refine wpAny_Call_Name_kw (ld_glob I hg hm ?_ hdb)
  refine PySem.W.callWith_K (h₀ := X.base) I.ok.mod.kin T.kC (thn (ha.run pos pins s σ H _ I h) fun us s1 ⟨vs, H1, I1, r, y, z, ey, q⟩ => ⟨I1.kIn, ?_⟩) he hpl
  subst ey
  show wpAny _ _ (call (.ref C) us) _ _ _
  exact run_exv (ws := []) (ks := []) T iC tI F1 hr hb hx I1 r .nil rfl rfl (by decide) (mk2 XT n1 n2 q)
theorem pe_ex1K (T : OexC X.K C) (iC : PySem.W.findIn X.K (.ref C) "__init__" = some (some (.ref fI))) (tI : PySem.W.typeIn X.K (.ref fI) = some (.type "function"))
    (F1 : FnOk X.prog X.w X.K X.mg X.base CX k fI fd ps (spInit1 X.K D fI f)) (XT : XC X.K C D fI) (n1 : PySem.W.findIn X.K (.ref C) f = some none) (hr : Room (k + 1) X.A) (hg : Gl X x) (hm : X.mg x = some (.ref C))
    (hb : KBn X.K fd ps 1 [f] (fun us ws => us ++ ws) (fun vs zs => vs ++ zs)) (hx : Passes CX X (fun _ _ _ => False)) (hkw : PK X kws tk)
    (hall : (backToKw pos (keywordEach kws X.env)).all (·.1.isSome) = true := by rfl) (hks : (backToKw pos (keywordEach kws X.env)).filterMap (·.1) = [f] := by rfl) (hdb : (x == ("__debug__" : Str)) = false := by decide)
    (hpl : ((backTo pos (starEach [] X.env)).any (·.1) || (backToKw pos (keywordEach kws X.env)).any (·.1.isNone)) = false := by rfl) :
    PE X (.Call (.Name x p) [] kws pos) (tEx1 C f tk) := by
  refine ⟨fun pins s σ H Q I h => ?_⟩
  refine wpAny_Call_Name_kw (ld_glob I hg hm ?_ hdb)
  refine PySem.W.callWith_KW0 (h₀ := X.base) I.ok.mod.kin T.kC hall ?_ hpl
  refine thn (hkw.run pos pins s σ H _ I h) fun ws s2 ⟨zs, H2, I2, rz, y, ey, q⟩ => ⟨I2.kIn, ?_⟩
  subst ey
  rw [hks]
  exact run_exv (us := []) (vs := []) (n := 0) T iC tI F1 hr hb hx I2 .nil rz rfl rfl (by decide) (mk1 XT n1 q)
theorem pe_ex2R (T : OexC X.K C) (iC : PySem.W.findIn X.K (.ref C) "__init__" = some (some (.ref fI))) (tI : PySem.W.typeIn X.K (.ref fI) = some (.type "function"))
    (F1 : FnOk X.prog X.w X.K X.mg X.base CX k fI fd ps (spInit2 X.K D fI f g)) (XT : XC X.K C D fI) (n1 : PySem.W.findIn X.K (.ref C) f = some none) (n2 : PySem.W.findIn X.K (.ref C) g = some none) (hr : Room (k + 1) X.A) (hg : Gl X x) (hm : X.mg x = some (.ref C))
    (hb : KBn X.K fd ps 1 [g, f] (fun us ws => us ++ ws.reverse) (fun vs zs => vs ++ zs.reverse)) (hx : Passes CX X (fun _ _ _ => False)) (hkw : PK X kws tk)
    (hall : (backToKw pos (keywordEach kws X.env)).all (·.1.isSome) = true := by rfl) (hks : (backToKw pos (keywordEach kws X.env)).filterMap (·.1) = [g, f] := by rfl) (hdb : (x == ("__debug__" : Str)) = false := by decide)
    (hpl : ((backTo pos (starEach [] X.env)).any (·.1) || (backToKw pos (keywordEach kws X.env)).any (·.1.isNone)) = false := by rfl) :
    PE X (.Call (.Name x p) [] kws pos) (tEx2R C f g tk) := by
  refine ⟨fun pins s σ H Q I h => ?_⟩
  refine wpAny_Call_Name_kw (ld_glob I hg hm ?_ hdb)
  refine PySem.W.callWith_KW0 (h₀ := X.base) I.ok.mod.kin T.kC hall ?_ hpl
  refine thn (hkw.run pos pins s σ H _ I h) fun ws s2 ⟨zs, H2, I2, rz, y, z, ey, q⟩ => ⟨I2.kIn, ?_⟩
  subst ey
  rw [hks]
  exact run_exv (us := []) (vs := []) (n := 0) T iC tI F1 hr hb hx I2 .nil rz rfl rfl (by decide) (mk2 XT n1 n2 q)
def tEx0 (C : Addr) : TE := fun _ H Q => ∀ a H', Same H H' → H' a = some (exo a C none) → Q (.ref a) H'
theorem pe_ex0 (q : PySem.W.excIn X.K C [.type "ValueError", .type "Exception", .type "BaseException", .type "object"] "ValueError.__new__" = true) (kC : PySem.W.keepIn X.K (.ref C) = true) (hg : Gl X x) (gC : X.mg x = some (.ref C)) (hdb : (x == ("__debug__" : Str)) = false := by decide) :
    PE X (.Call (.Name x p) [] [] pos) (tEx0 C) := pe_to (pe_exc0 q kC hg gC hdb) fun σ H Q q a na => q a _ (same1 na) upd_same
end
/-! ### a comprehension: one new list, what was there stays -/
section
variable {J : It} {n : Nat} {G : Hp → Prop} {Y : Nat → Hp → V → Hp → Prop}
theorem lc_new (w : Walk J n G Y) {g : TG} {tt : TT} {te : TE} {vs : List Nat} {σ : L2.St} {H1 : Hp} {Qd : Hp → Prop} {D : Addr} (hD : H1 D = none) (zs : List V) (hn : zs.length = n) (hz : n ≤ 1000000) (hG : ∀ H, Same H1 H → G H) (hY : ∀ i H x H', Y i H x H' → Same H H')
    (hs : ∀ i x z H H' (Qn : VK) (R : Hp → Prop), i < n → zs[i]? = some z → Same H1 H → Y i H x H' → (∀ H3, Same H' H3 → Qn z H3) → g x (wipe σ vs) H' fun σ2 H2 => wipe σ2 vs = wipe σ vs ∧ tt σ2 H2 fun b H3 => if b = true then te σ2 H3 Qn else R H3)
    (k : ∀ H', Same H1 H' → H' D = some (.lst zs) → Qd H') :
    ∃ W : Nat → Nat → Hp → Prop, (∃ m, W 0 m (upd H1 D (.lst []))) ∧ ∀ i m H, W i m H →
      (J.stop i H ∧ Qd H) ∨ (J.go i H ∧ ∃ Nx : Hp → Prop, (∀ H', Nx H' → ∃ m', m' < m ∧ W (i + 1) m' H') ∧ ∀ x H', J.yld i H x H' → g x (wipe σ vs) H' fun σ2 H2 => wipe σ2 vs = wipe σ vs ∧ tt σ2 H2 fun b H3 =>
        if b = true then te σ2 H3 fun y H4 => ∃ acc, H4 D = some (.lst acc) ∧ acc.length < sizeLine ∧ Nx (upd H4 D (.lst (acc ++ [y]))) else Nx H3) := by
  have up : ∀ (H : Hp) (o : HO), Same H1 H → Same H1 (upd H D o) := fun H o s b u e => by
    rw [upd_ne (ne_of_none e hD)]
    exact s b u e
  refine lc_it w (fun i H => Same H1 H ∧ H D = some (.lst (zs.take i))) ⟨up _ _ (Same.refl H1), by rw [upd_same, List.take_zero]⟩ (fun i H _ h => hG H h.1) (fun i x H H' hi h y => ?_) (fun H h => k H h.1 (by rw [h.2, List.take_of_length_le (Nat.le_of_eq hn)]))
  have hiz : i < zs.length := by omega
  have e1 : zs[i]? = some (zs[i]'hiz) := List.getElem?_eq_getElem hiz
  refine hs i x (zs[i]'hiz) H H' _ _ hi e1 h.1 y fun H3 s3 => ?_
  have hy := hY i H x H' y
  refine ⟨_, s3 _ _ (hy _ _ h.2), ?_, up _ _ (h.1.trans (hy.trans s3)), ?_⟩
  · rw [List.length_take]
    exact Nat.lt_of_le_of_lt (Nat.le_trans (Nat.min_le_left _ _) (Nat.le_of_lt hi)) (Nat.lt_of_le_of_lt hz (by decide))
  · rw [upd_same, List.take_succ, e1]
    rfl
end
end Stp

/-! repr of a list whose items are data, each read for itself. -/
namespace Rp
open PySem PySem.Spec L2 Gd
/-- v stands for the data d -/
def Rd0 (h : Heap) (u : Value) (d : PyData) : Prop := ∃ as, Reads h u d as ∧ (d.hasDict = true → sysModules ∉ as)
inductive RdAll (h : Heap) : List Value → List PyData → Prop
  | nil : RdAll h [] []
  | cons {u : Value} {us : List Value} {d : PyData} {ds : List PyData} : Rd0 h u d → RdAll h us ds → RdAll h (u :: us) (d :: ds)
theorem RdAll.reads {h : Heap} : ∀ {us : List Value} {ds : List PyData}, RdAll h us ds → ∃ as, ReadsAll h us ds as
  | _, _, .nil => ⟨_, .nil⟩
  | _, _, .cons ⟨as, r, _⟩ t => by
    obtain ⟨bs, q⟩ := t.reads
    exact ⟨_, .cons r q⟩
theorem RdAll.shows {prog : Program} {w : World} {h : Heap} : ∀ {us : List Value} {ds : List PyData}, RdAll h us ds → PyData.showableAll ds = true → (∀ t ∈ PyData.shownAll ds, t.length ≤ sizeLine) →
    ∃ bs, ReadAtMost h (PyData.depthAll ds) bs ∧ ReprAllK prog w bs h (PyData.depthAll ds) us (PyData.shownAll ds)
  | _, _, .nil, _, _ => ⟨[], (fun _ h => nomatch h), by simp only [PyData.shownAll]; exact .nil⟩
  | _, _, .cons (d := d) (ds := ds) ⟨as, r, hm⟩ t, hs, hz => by
    have hs' : d.showable = true ∧ PyData.showableAll ds = true := by simpa [PyData.showableAll] using hs
    obtain ⟨b1, m1, k1⟩ := ReprK.of_reads (prog := prog) (w := w) r hs'.1 hm (hz _ (by simp only [PyData.shownAll]; exact List.mem_cons_self))
    obtain ⟨b2, m2, k2⟩ := t.shows (prog := prog) (w := w) hs'.2 fun x hx => hz x (by simp only [PyData.shownAll]; exact List.mem_cons_of_mem _ hx)
    have l1 : d.depth ≤ PyData.depthAll (d :: ds) := by simp only [PyData.depthAll]; exact Nat.le_max_left _ _
    have l2 : PyData.depthAll ds ≤ PyData.depthAll (d :: ds) := by simp only [PyData.depthAll]; exact Nat.le_max_right _ _
    refine ⟨b1 ++ b2, fun b hb => ?_, ?_⟩
    · rcases List.mem_append.mp hb with hb | hb
      · obtain ⟨e, cs, q, z⟩ := m1 b hb
        exact ⟨e, cs, q, Nat.le_trans z l1⟩
      · obtain ⟨e, cs, q, z⟩ := m2 b hb
        exact ⟨e, cs, q, Nat.le_trans z l2⟩
    · simp only [PyData.shownAll]
      exact .cons ((k1.more fun b hb => List.mem_append_left _ hb).level_le l1) (k2.more_le (fun b hb => List.mem_append_right _ hb) l2)
theorem repr_list {prog : Program} {w : World} {A : Around} {E : Value → Shared → Prop} {s : Shared} {Q : Value → Shared → Prop} {a : Addr} {n : Nat} {us : List Value} {ds : List PyData} (ho : s.heap.get? a = some { cls := .type "list", data := .seq us.toArray n }) (r : RdAll s.heap us ds)
    (hs : PyData.showableAll ds = true) (hg : A.guards = some []) (hu : A.units + (PyData.depthAll ds + 2) < cLine) (hsz : (PyData.list ds).shown.length ≤ sizeLine)
    (hQ : ∀ h' u tk, (∀ b o, s.heap.get? b = some o → h'.get? b = some o) → Q (.str (PyData.list ds).shown u) { s with heap := h', toks := tk }) : wpAny (model prog w) A (call (.builtin "repr") [.ref a]) Q E s := by
  have hz' : (listText (PyData.shownAll ds)).length ≤ sizeLine := by simpa only [PyData.shown] using hsz
  obtain ⟨as, hr⟩ := r.reads
  obtain ⟨bs, hb, hk⟩ := r.shows (prog := prog) (w := w) hs (fun t ht => Nat.le_trans (listText_mem_le ht) hz')
  have hna : a ∉ bs := not_mem_of_deeper (.list ho rfl rfl hr) (by simp only [PyData.depth]; omega) hb
  refine call_repr_slot (by omega) ⟨_, ho, rfl⟩ F.slot_list_repr.toG ?_
  simp only [PyData.shown] at hQ
  cases us with
  | nil =>
    cases r
    simp only [PyData.shownAll, listText_nil] at hQ
    exact call_list_repr_empty ⟨_, ho, rfl⟩ ho rfl ⟨_, _, rfl, hQ s.heap _ _ fun _ _ e => e⟩
  | cons x l =>
    exact call_list_reprK ho rfl rfl hna (by simpa using hk.length_eq) (fun i y e => hk.item i y (by simpa using e)) hg (fun b _ => Clear.nil b) (by show A.units + 1 + (PyData.depthAll ds + 1) < cLine; omega) (fun _ _ e => e) (fun h' u tk hk => ⟨_, _, rfl, hQ h' u tk hk⟩) hz'
end Rp
namespace Rp
open PySem PySem.Spec L2 Gd Stp
inductive OneAll (K : PySem.W.Frag) (H : Hp) : List V → List PyData → Prop
  | nil : OneAll K H [] []
  | cons {v : V} {vs : List V} {d : PyData} {ds : List PyData} : OneD K H v d → OneAll K H vs ds → OneAll K H (v :: vs) (d :: ds)
theorem OneAll.rep {K : PySem.W.Frag} {H : Hp} {v : V} {d : PyData} (h : OneD K H v d) : ∀ n : Nat, OneAll K H (List.replicate n v) (List.replicate n d)
  | 0 => .nil
  | n + 1 => .cons h (OneAll.rep h n)
theorem oneRd {X : Cx} {pins : List (Addr × Obj)} {σ : L2.St} {H : Hp} {s : Shared} {v : V} {d : PyData} {u : Value} (I : Inv X pins σ H s) (h : OneD X.K H v d) (r : RelV v u) : Rd0 s.heap u d := by
  rcases h with ⟨h1, h2⟩ | ⟨a, rfl, h2, rfl⟩
  · obtain ⟨as, q⟩ := Dp.reads I d v u h1 r
    exact ⟨as, q, fun z => by rw [h2] at z; cases z⟩
  · cases r
    obtain ⟨_, hm, vs, kv, o, es, ep, ho, hx, hd, hk, hp, hnd⟩ := dk_of I.hok h2
    cases kv with
    | cons q1 q2 =>
      cases q2
      rename_i p0
      obtain ⟨k0, v0⟩ := p0
      obtain ⟨rfl, t1, rfl⟩ := q1
      obtain ⟨es⟩ := es
      cases hp with
      | cons e1 e2 e3 =>
        cases e3
        rename_i e0
        obtain ⟨hh, ke, va⟩ := e0
        have e1' : keyIs (.inr "a") ke = true := e1
        rcases keyIs_shape e1' with ⟨i, t, z, _⟩ | ⟨x, t, z, rfl⟩
        · cases z
        · cases z
          cases e2
          refine ⟨_, .dict ho hx.1 hd (.cons (.str _ _) .nil) (.cons (.int _ _) .nil), fun _ => ?_⟩
          have : a ≠ sysModules := beq_eq_false_iff_ne.mp hm
          simpa using this.symm
theorem OneAll.rd {X : Cx} {pins : List (Addr × Obj)} {σ : L2.St} {H : Hp} {s : Shared} (I : Inv X pins σ H s) : ∀ {ys : List V} {ds : List PyData} {us : List Value}, OneAll X.K H ys ds → Vals ys us → RdAll s.heap us ds
  | _, _, _, .nil, r => by cases r; exact .nil
  | _, _, _, .cons h t, r => by
    cases r with
    | cons r1 r2 => exact .cons (oneRd I h r1) (t.rd I r2)
def okD (ds : List PyData) : Bool := PyData.showableAll ds && decide (PyData.depthAll ds ≤ 60) && decide ((PyData.list ds).shown.length ≤ 16777216)
def rReprL (K : PySem.W.Frag) : List V → Hp → VK → Prop := fun xs H Q => ∃ (a : Addr) (ys : List V) (ds : List PyData), xs = [.ref a] ∧ H a = some (.lst ys) ∧ OneAll K H ys ds ∧ okD ds = true ∧ Q (.str (PyData.list ds).shown) H
theorem call_reprL {X : Cx} (hg : X.A.guards = some []) (hu : X.A.units + 64 < cLine) : CallR X (.builtin "repr") (rReprL X.K) := by
  intro pins s σ H xs us Q I r h
  obtain ⟨a, ys, ds, rfl, ha, hd, ok, q⟩ := h
  unfold okD at ok
  simp only [Bool.and_eq_true, decide_eq_true_eq] at ok
  obtain ⟨⟨h1, h2⟩, h3⟩ := ok
  cases r with
  | cons rx rr =>
    cases rr
    cases rx
    obtain ⟨_, its, n, rv, ho⟩ := I.hok a _ ha
    exact repr_list ho (hd.rd I rv) h1 hg (by omega) (by rw [sizeLine_eq]; exact h3) fun h' u tk hk => ⟨.str _, H, I.kept (h' := h') (t' := tk) hk, ⟨_, rfl⟩, q⟩
end Rp
namespace Rp
open PySem PySem.Spec L2 Fx
/-- the same with the written part named: for a comprehension's block -/
theorem pe_exatK {X : Cx} (K : PySem.W.Frag) {e : Expr} {f : Str} {te : TE} {pos : Pos} (he : PE X e te) (hK : X.K = K := by rfl) (hb : attributeBase e f X.env (eval e X.env) = eval e X.env := by rfl) : PE X (.Attribute e f pos) (tExAt K te f) := by
  subst hK
  exact pe_exat he hb
theorem call_isXK {X : Cx} (K : PySem.W.Frag) (hK : X.K = K := by rfl) : CallR X (.builtin "isinstance") (rIsX K) := by
  subst hK
  exact call_isX
end Rp

namespace K00
open PySem PySem.Spec Rp
def ds7 : List PyData := [.none, .int 5, .str "spot", .tuple [.str "x", .int 1], .list [.int 3], .dict [(.str "a", .int 1)], .int (10 ^ 40)]
def ds4 : List PyData := [.int 0, .str "x y", .none, .tuple []]
theorem oks : ∀ d ∈ ds7, okD (List.replicate 16 d) = true ∧ ∀ e ∈ ds4, okD [d, e, d, d, e] = true := by decide +kernel
end K00

namespace K00
open PySem PySem.Spec L2 NdefX Fx Gd Rp Stp
abbrev NL : List Str := ["script", "well", "turn", "one", "other", "some", "named", "rest", "by_name", "text", "command", "nothing", "many", "at", "error", "spot"]
theorem scL : FnScope NL ["script"] (defScope sLaw) := ⟨rfl, rfl, rfl, by decide +kernel, rfl, by decide +kernel, by decide +kernel⟩
abbrev ValErr : String := "ValueError"
def spLaw (K : PySem.W.Frag) : Sp := fun vs H Q _ => ∃ (a : Addr) (ns : List Int), vs = [.ref a] ∧ SqL K H a (ns.map V.int) ∧ ns.length ≤ 63 ∧ ∀ H', Q (.bl true) H'
section
variable {P : Program} {w : World} {K : PySem.W.Frag} {mg : Str → Option Value} {base : Heap} {c : CA}
/-- what the law calls -/
structure Kit (P : Program) (w : World) (K : PySem.W.Frag) (mg : Str → Option Value) (base : Heap) (c : CA) (fW fO fK : Addr) (fdW fdO fdK fdP fdT fdC fdM : FuncData) : Prop where
  T : TxtE K mg c
  GW : FnOk P w K mg base CX0 1 fW fdW ["script"] (spWell K)
  GO : FnOk P w K mg base CX0 2 fO fdO ["well", "some"] (spOne K)
  GK : FnOk P w K mg base CX0 1 fK fdK ["error"] (spCls K c)
  GP : FnOk P w K mg base CX0 1 c.fP fdP ["self", "part"] (spInit1 K c.cPart c.fP "part")
  GT : FnOk P w K mg base CX0 1 c.fT fdT ["self", "line", "word"] (spInit2 K c.cText c.fT "line" "word")
  GC : FnOk P w K mg base CX0 1 c.fC fdC ["self", "word"] (spInit1 K c.cComm c.fC "word")
  GM : FnOk P w K mg base CX0 1 c.fM fdM ["self", "what", "most"] (spInit2 K c.cMany c.fM "what" "most")
  gW : mg "_law_well" = some (.ref fW)
  gO : mg "_law_one" = some (.ref fO)
  gK : mg "_law_classes" = some (.ref fK)
  kW : PySem.W.keepIn K (.ref fW) = true
  kO : PySem.W.keepIn K (.ref fO) = true
  kK : PySem.W.keepIn K (.ref fK) = true
  bW : L2.Binds K fdW ["script"] []
  bO : L2.Binds K fdO ["well", "some"] []
  bK : L2.Binds K fdK ["error"] []
  kbP : KBn K fdP ["self", "part"] (1 + 1) ([] : List Str) (fun us _ => us) (fun vs _ => vs)
  kbPk : KBn K fdP ["self", "part"] 1 ["part"] (fun us ws => us ++ ws) (fun vs zs => vs ++ zs)
  kbC : KBn K fdC ["self", "word"] (1 + 1) ([] : List Str) (fun us _ => us) (fun vs _ => vs)
  kbCk : KBn K fdC ["self", "word"] 1 ["word"] (fun us ws => us ++ ws) (fun vs zs => vs ++ zs)
  kbT : KBn K fdT ["self", "line", "word"] (2 + 1) ([] : List Str) (fun us _ => us) (fun vs _ => vs)
  kbTk : KBn K fdT ["self", "line", "word"] 1 ["word", "line"] (fun us ws => us ++ ws.reverse) (fun vs zs => vs ++ zs.reverse)
  kbM : KBn K fdM ["self", "what", "most"] (2 + 1) ([] : List Str) (fun us _ => us) (fun vs _ => vs)
  kbMk : KBn K fdM ["self", "what", "most"] 1 ["most", "what"] (fun us ws => us ++ ws.reverse) (fun vs zs => vs ++ zs.reverse)
theorem WellAt.same {H H' : Hp} {a l : Addr} {ns : List Int} {n : Nat} (h : WellAt H a l ns n) (s : Same H H') : WellAt H' a l ns n := by
  obtain ⟨h1, h2, t, r, h3, h4, h5, h6⟩ := h
  exact ⟨h1, s _ _ h2, t, r, h3, h4, h5, s _ _ h6⟩
theorem one_data {K : PySem.W.Frag} {H : Hp} {x : V} {pt pl pd : Addr} (hx : x ∈ [V.non, .int 5, .str "spot", .ref pt, .ref pl, .ref pd, .int ((10 : Int) ^ (40 : Int).toNat)]) (et : H pt = some (.tup [.str "x", .int 1])) (el : H pl = some (.lst [.int 3])) (ed : H pd = some (.dK [(.inr "a", .int 1)])) :
    ∃ d ∈ ds7, OneD K H x d := by
  simp only [List.mem_cons, List.not_mem_nil, or_false] at hx
  rcases hx with rfl | rfl | rfl | rfl | rfl | rfl | rfl
  · exact ⟨_, .head _, .inl ⟨.non, rfl⟩⟩
  · exact ⟨_, .tail _ (.head _), .inl ⟨.int _, rfl⟩⟩
  · exact ⟨_, .tail _ (.tail _ (.head _)), .inl ⟨.str _, rfl⟩⟩
  · exact ⟨_, .tail _ (.tail _ (.tail _ (.head _))), .inl ⟨.tup (SqT.of et) (.cons (.str _) (.cons (.int _) .nil)), rfl⟩⟩
  · exact ⟨_, .tail _ (.tail _ (.tail _ (.tail _ (.head _)))), .inl ⟨.lst (SqL.of el) (.cons (.int _) .nil), rfl⟩⟩
  · exact ⟨_, .tail _ (.tail _ (.tail _ (.tail _ (.tail _ (.head _))))), .inr ⟨pd, rfl, ed, rfl⟩⟩
  · exact ⟨_, .tail _ (.tail _ (.tail _ (.tail _ (.tail _ (.tail _ (.head _)))))), .inl ⟨.int _, rfl⟩⟩
theorem oth_data {K : PySem.W.Frag} {H : Hp} {x : V} {pe : Addr} (hx : x ∈ [V.int 0, .str "x y", .non, .ref pe]) (ee : H pe = some (.tup [])) : ∃ d ∈ ds4, OneD K H x d := by
  simp only [List.mem_cons, List.not_mem_nil, or_false] at hx
  rcases hx with rfl | rfl | rfl | rfl
  · exact ⟨_, .head _, .inl ⟨.int _, rfl⟩⟩
  · exact ⟨_, .tail _ (.head _), .inl ⟨.str _, rfl⟩⟩
  · exact ⟨_, .tail _ (.tail _ (.head _)), .inl ⟨.non, rfl⟩⟩
  · exact ⟨_, .tail _ (.tail _ (.tail _ (.head _))), .inl ⟨.tup (SqT.of ee) .nil, rfl⟩⟩
theorem dpBools {K : PySem.W.Frag} {H : Hp} (b : Nat → Bool) : ∀ ns : List Nat, DpAll K H (ns.map fun j => V.bl (b j)) (ns.map fun j => PyData.bool (b j))
  | [] => .nil
  | n :: ns => .cons (.bl _) (dpBools b ns)
theorem dds : ∀ i < 12, SeqAt.shaped (.list ((List.range 12).map fun j => PyData.bool (decide (i = j)))) = true ∧ PyData.eqv (.list ((List.range 12).map fun j => PyData.bool (decide (i = j)))) (.list ((List.range 12).map fun j => PyData.bool (decide (i = j)))) = true := by decide +kernel
/-- between the drawn values and the rest of a turn -/
def MidL (K : PySem.W.Frag) (s0 p l : Addr) (ms : List Int) (n : Nat) : L2.St → Hp → Prop := fun σ H => ∃ (one other : V) (d e : PyData) (v2 v5 v6 v7 v8 v9 v10 v11 v12 v13 v14 v15 : Option V),
  σ = [some (.ref s0), some (.ref p), v2, some one, some other, v5, v6, v7, v8, v9, v10, v11, v12, v13, v14, v15] ∧ WellAt H p l ms n ∧ d ∈ ds7 ∧ e ∈ ds4 ∧ OneD K H one d ∧ OneD K H other e
def PvL (s0 p l : Addr) (ms : List Int) (n : Nat) : L2.St → Hp → Prop := fun σ H => ∃ (v2 v3 v4 v5 v6 v7 v8 v9 v10 v11 v12 v13 v14 v15 : Option V),
  σ = [some (.ref s0), some (.ref p), v2, v3, v4, v5, v6, v7, v8, v9, v10, v11, v12, v13, v14, v15] ∧ WellAt H p l ms n
theorem ok_law {f fW fO fK : Addr} {fd fdW fdO fdK fdP fdT fdC fdM : FuncData} (F : Fun K "law" "law" sLaw f fd) (Z : Kit P w K mg base c fW fO fK fdW fdO fdK fdP fdT fdC fdM) : FnG P w K mg base CX0 4 f fd ["script"] (spLaw K) := by
  obtain ⟨T, GW, GO, GK, GP, GT, GC, GM, gW, gO, gK, kW, kO, kK, bW, bO, bK, kbP, kbPk, kbC, kbCk, kbT, kbTk, kbM, kbMk⟩ := Z
  refine okG F scL (fun vs H Q E h => ?_) (fun cdv A outer s H vs Q E hr h => ?_)
  · obtain ⟨a, ns, rfl, _⟩ := h
    rfl
  · have hr2 : Room 2 (cxOf CX0 P w K mg base NL "law" (defScope sLaw) f cdv A outer s H E).nox.A := hr.toRoom.mono (by decide)
    have hr1 : Room 1 (cxOf CX0 P w K mg base NL "law" (defScope sLaw) f cdv A outer s H E).nox.A := hr.toRoom.mono (by decide)
    have hu := hr.toRoom.units
    have hg : (cxOf CX0 P w K mg base NL "law" (defScope sLaw) f cdv A outer s H E).nox.A.guards = some [] := hr.gd
    refine ⟨_, pss_cons (ps_set (i := 1) scL.nd rfl (Or.inl rfl) (pe_call GW hr1 rfl gW kW bW .nil pass0 (pa_cons (pv 0) pa_nil)))
      (pss_cons (ps_for PassesOwn.never rfl (pi_range1 rfl T.rng (pa_cons pe_int pa_nil)) (pg_name (i := 2) scL.nd rfl (Or.inl rfl))
        (C8.pss_cut (ps_par (i := 3) (j := 4) rfl scL.nd rfl rfl (by decide) rfl rfl (pa_cons (pe_call GO hr2 rfl gO kO bO .nil pass0 (pa_cons (pv 1) (pa_cons (pe_lstN (pa_cons pe_non (pa_cons pe_int (pa_cons pe_str (pa_cons (pe_tupN (pa_cons pe_str (pa_cons pe_int pa_nil))) (pa_cons (pe_lstN (pa_cons pe_int pa_nil)) (pa_cons (dict1 (k := .inr "a") (v := .int 1) (pe_disp (pps_cons pe_str pe_int pps_nil) (by rfl) (by rfl) (fun z => by cases z) (by decide)) (fun _ _ _ h => h)) (pa_cons (pe_op op_pow pe_int pe_int) pa_nil)))))))) pa_nil))) (pa_cons (pe_call GO hr2 rfl gO kO bO .nil pass0 (pa_cons (pv 1) (pa_cons (pe_lstN (pa_cons pe_int (pa_cons pe_str (pa_cons pe_non (pa_cons (pe_tupN pa_nil) pa_nil))))) pa_nil))) pa_nil)) (by rfl))
        (pss_cons (ps_set (i := 5) scL.nd rfl (Or.inl rfl) (pe_lstN (pa_cons (pe_ex1 T.xcFace.toOexC T.xcFace.iC T.tP GP T.xcFace T.pcFace hr2 rfl T.gcFace kbP pass0 (pa_cons (pv 3) pa_nil)) (pa_cons (pe_ex1 T.xcMann.toOexC T.xcMann.iC T.tP GP T.xcMann T.pcMann hr2 rfl T.gcMann kbP pass0 (pa_cons (pv 3) pa_nil)) (pa_cons (pe_ex1 T.xcMatc.toOexC T.xcMatc.iC T.tP GP T.xcMatc T.pcMatc hr2 rfl T.gcMatc kbP pass0 (pa_cons (pv 3) pa_nil)) (pa_cons (pe_ex1 T.xcSpot.toOexC T.xcSpot.iC T.tP GP T.xcSpot T.pcSpot hr2 rfl T.gcSpot kbP pass0 (pa_cons (pv 3) pa_nil)) (pa_cons (pe_ex1 T.xcPlac.toOexC T.xcPlac.iC T.tP GP T.xcPlac T.pcPlac hr2 rfl T.gcPlac kbP pass0 (pa_cons (pv 3) pa_nil)) (pa_cons (pe_ex1 T.xcDriv.toOexC T.xcDriv.iC T.tP GP T.xcDriv T.pcDriv hr2 rfl T.gcDriv kbP pass0 (pa_cons (pv 3) pa_nil)) (pa_cons (pe_ex1 T.xcNumb.toOexC T.xcNumb.iC T.tP GP T.xcNumb T.pcNumb hr2 rfl T.gcNumb kbP pass0 (pa_cons (pv 3) pa_nil)) (pa_cons (pe_ex1 T.xcValu.toOexC T.xcValu.iC T.tP GP T.xcValu T.pcValu hr2 rfl T.gcValu kbP pass0 (pa_cons (pv 3) pa_nil)) pa_nil))))))))))
        (pss_cons (ps_set (i := 6) scL.nd rfl (Or.inl rfl) (pe_lstN (pa_cons (pe_ex1K T.xcFace.toOexC T.xcFace.iC T.tP GP T.xcFace T.pcFace hr2 rfl T.gcFace kbPk pass0 (pk_cons (pv 3) pk_nil)) (pa_cons (pe_ex1K T.xcMann.toOexC T.xcMann.iC T.tP GP T.xcMann T.pcMann hr2 rfl T.gcMann kbPk pass0 (pk_cons (pv 3) pk_nil)) (pa_cons (pe_ex1K T.xcMatc.toOexC T.xcMatc.iC T.tP GP T.xcMatc T.pcMatc hr2 rfl T.gcMatc kbPk pass0 (pk_cons (pv 3) pk_nil)) (pa_cons (pe_ex1K T.xcSpot.toOexC T.xcSpot.iC T.tP GP T.xcSpot T.pcSpot hr2 rfl T.gcSpot kbPk pass0 (pk_cons (pv 3) pk_nil)) (pa_cons (pe_ex1K T.xcPlac.toOexC T.xcPlac.iC T.tP GP T.xcPlac T.pcPlac hr2 rfl T.gcPlac kbPk pass0 (pk_cons (pv 3) pk_nil)) (pa_cons (pe_ex1K T.xcDriv.toOexC T.xcDriv.iC T.tP GP T.xcDriv T.pcDriv hr2 rfl T.gcDriv kbPk pass0 (pk_cons (pv 3) pk_nil)) (pa_cons (pe_ex1K T.xcNumb.toOexC T.xcNumb.iC T.tP GP T.xcNumb T.pcNumb hr2 rfl T.gcNumb kbPk pass0 (pk_cons (pv 3) pk_nil)) pa_nil)))))))))
        (pss_cons (ps_expr (pe_bm PySem.F.plainAttrs_list PySem.F.slot_list_append PySem.F.type_list_append mt_append (pv 6) (pa_cons (pe_ex1K T.xcValu.toOexC T.xcValu.iC T.tP GP T.xcValu T.pcValu hr2 rfl T.gcValu kbPk pass0 (pk_cons (pv 3) pk_nil)) pa_nil)))
        (pss_cons (ps_if (pt_cmpR op_ne (pe_callB (call_reprL hg hu) (by rfl) T.rep (by decide +kernel) (pa_cons (pe_lc (own := [("error", 14)]) (g := gName 14) (tt := tYes) rfl scL.nd (pi_list (pe_op op_catN (pv 5) (pv 6))) (blkOk_by (N := NL) (sc := defScope sLaw) (by decide +kernel)) (fun _ _ _ _ _ => pg_name (i := 14) scL.nd rfl (Or.inl rfl)) (fun _ _ _ _ _ => pts_nil) (fun _ _ _ _ _ => pe_exatK K (pv 14))) pa_nil)) (pe_callB (call_reprL hg hu) (by rfl) T.rep (by decide +kernel) (pa_cons (pe_op op_repN (pe_lstN (pa_cons (pv 3) pa_nil)) pe_int) pa_nil)) (nomark _)) (pss_one (ps_ret pe_bl)) pss_nil)
        (pss_cons (ps_set (i := 7) scL.nd rfl (Or.inl rfl) (pe_lstN (pa_cons (pe_ex2 T.xcText.toOexC T.xcText.iC T.tT GT T.xcText T.p1cText T.p2cText hr2 rfl T.gcText kbT pass0 (pa_cons (pv 3) (pa_cons (pv 4) pa_nil))) (pa_cons (pe_ex1 T.xcComm.toOexC T.xcComm.iC T.tC GC T.xcComm T.p1cComm hr2 rfl T.gcComm kbC pass0 (pa_cons (pv 3) pa_nil)) (pa_cons (pe_ex0 T.qcNoth T.kcNoth rfl T.gcNoth) (pa_cons (pe_ex2 T.xcMany.toOexC T.xcMany.iC T.tM GM T.xcMany T.p1cMany T.p2cMany hr2 rfl T.gcMany kbM pass0 (pa_cons (pv 3) (pa_cons (pv 4) pa_nil))) pa_nil))))))
        (pss_cons (ps_set (i := 8) scL.nd rfl (Or.inl rfl) (pe_lstN (pa_cons (pe_ex2R T.xcText.toOexC T.xcText.iC T.tT GT T.xcText T.p1cText T.p2cText hr2 rfl T.gcText kbTk pass0 (pk_cons (pv 4) (pk_cons (pv 3) pk_nil))) (pa_cons (pe_ex1K T.xcComm.toOexC T.xcComm.iC T.tC GC T.xcComm T.p1cComm hr2 rfl T.gcComm kbCk pass0 (pk_cons (pv 3) pk_nil)) (pa_cons (pe_ex0 T.qcNoth T.kcNoth rfl T.gcNoth) (pa_cons (pe_ex2R T.xcMany.toOexC T.xcMany.iC T.tM GM T.xcMany T.p1cMany T.p2cMany hr2 rfl T.gcMany kbMk pass0 (pk_cons (pv 4) (pk_cons (pv 3) pk_nil))) pa_nil))))))
        (pss_cons (ps_for PassesOwn.never rfl (pi_list (pe_lstN (pa_cons (pv 7) (pa_cons (pv 8) pa_nil)))) (pg_unl rfl (pgs_cons (pg_name (i := 9) scL.nd rfl (Or.inl rfl)) (pgs_cons (pg_name (i := 10) scL.nd rfl (Or.inl rfl)) (pgs_cons (pg_name (i := 11) scL.nd rfl (Or.inl rfl)) (pgs_cons (pg_name (i := 12) scL.nd rfl (Or.inl rfl)) pgs_nil))))) (pss_one (ps_if (pt_cmpR op_ne (pe_callB (call_reprL hg hu) (by rfl) T.rep (by decide +kernel) (pa_cons (pe_lstN (pa_cons (pe_exat (pv 9)) (pa_cons (pe_exat (pv 9)) (pa_cons (pe_exat (pv 10)) (pa_cons (pe_exat (pv 12)) (pa_cons (pe_exat (pv 12)) pa_nil)))))) pa_nil)) (pe_callB (call_reprL hg hu) (by rfl) T.rep (by decide +kernel) (pa_cons (pe_lstN (pa_cons (pv 3) (pa_cons (pv 4) (pa_cons (pv 3) (pa_cons (pv 3) (pa_cons (pv 4) pa_nil)))))) pa_nil)) (nomark _)) (pss_one (ps_ret pe_bl)) pss_nil)))
        (pss_cons (ps_for PassesOwn.never rfl (pi_enum (by rfl) T.enm (pa_cons (pe_op op_catN (pv 5) (pv 7)) pa_nil)) (pg_tup rfl (pgs_cons (pg_name (i := 13) scL.nd rfl (Or.inr rfl)) (pgs_cons (pg_name (i := 14) scL.nd rfl (Or.inl rfl)) pgs_nil))) (pss_one (ps_if (PW.pt (pw_or (pt_cmpR (op_neD hu) (pe_call GK hr1 rfl gK kK bK .nil pass0 (pa_cons (pv 14) pa_nil)) (pe_lc (own := [("spot", 15)]) (g := gName 15) (tt := tYes) rfl scL.nd (pi_range1 rfl T.rng (pa_cons pe_int pa_nil)) (blkOk_by (N := NL) (sc := defScope sLaw) (by decide +kernel)) (fun _ _ _ _ _ => pg_name (i := 15) scL.nd rfl (Or.inl rfl)) (fun _ _ _ _ _ => pts_nil) (fun _ _ _ _ _ => pe_cmpR op_eq (pv 15) (pv 13) (nomark _))) (nomark _)) (pw_or (pt_not (pt_val (pe_callB call_isX (by rfl) T.isi (by decide +kernel) (pa_cons (pv 14) (pa_cons (pe_glob (v := .ref c.cMErr) rfl T.gcMErr rfl) pa_nil))))) (pw_or1 (pt_not (pt_val (pe_callB call_isX (by rfl) T.isi (by decide +kernel) (pa_cons (pv 14) (pa_cons (pe_bltn (v := .ty ValErr) rfl T.vle (by decide +kernel) rfl) pa_nil))))))))) (pss_one (ps_ret pe_bl)) pss_nil)))
        (pss_one (ps_if (pt_cmpR (op_neD hu) (pe_lc (own := [("error", 14)]) (g := gName 14) (tt := tYes) rfl scL.nd (pi_list (pe_op op_catN (pv 5) (pv 7))) (blkOk_by (N := NL) (sc := defScope sLaw) (by decide +kernel)) (fun _ _ _ _ _ => pg_name (i := 14) scL.nd rfl (Or.inl rfl)) (fun _ _ _ _ _ => pts_nil) (fun _ _ _ _ _ => (pe_callB (call_isXK K) (by rfl) T.isi (by decide +kernel) (pa_cons (pv 14) (pa_cons (pe_glob (v := .ref c.cPart) rfl T.gcPart rfl) pa_nil))))) (pe_op op_catN (pe_op op_repN (pe_lstN (pa_cons pe_bl pa_nil)) pe_int) (pe_op op_repN (pe_lstN (pa_cons pe_bl pa_nil)) pe_int)) (nomark _)) (pss_one (ps_ret pe_bl)) pss_nil))))))))))))
      (pss_one (ps_ret pe_bl))), ?_⟩
    obtain ⟨a, ns, rfl, hS, hlen, k⟩ := h
    refine ⟨_, rfl, a, ns, rfl, hS, hlen, fun p l ms H0 hW0 hms s0 np => ?_⟩
    refine ⟨3, rfl, by decide, by decide, for_range (n := 3) (fun i => PvL a p l ms (2 * i)) ⟨_, _, _, _, _, _, _, _, _, _, _, _, _, _, rfl, hW0⟩ ?_ ?_⟩
    · rintro i σ H hi ⟨v2, v3, v4, v5, v6, v7, v8, v9, v10, v11, v12, v13, v14, v15, rfl, hW⟩
      refine ⟨MidL K a p l ms (2 * (i + 1)), ?_, ?_⟩
      · have hp0 : ∃ o, H p = some o := by
          obtain ⟨_, _, t, r, _, _, _, h6⟩ := hW
          exact ⟨_, h6⟩
        obtain ⟨op, hp0⟩ := hp0
        refine ⟨_, rfl, by simp, fun pt Ht nt st et => ?_⟩
        refine ⟨by simp, fun pl Hl nl sl el => ?_⟩
        refine fun pd Hd nd sd ed => ?_
        refine ⟨_, _, rfl, rfl, ⟨by decide, by decide, by decide⟩, by simp, fun p7 H7 n7 s7 e7 => ?_⟩
        have st1 := sl.trans (sd.trans s7)
        have hp7 := s7 _ _ (sd _ _ (sl _ _ (st _ _ hp0)))
        have npt : pt ≠ p := (ne_of_none hp0 nt).symm
        have npl : pl ≠ p := (ne_of_none (st _ _ hp0) nl).symm
        have npd : pd ≠ p := (ne_of_none (sl _ _ (st _ _ hp0)) nd).symm
        have np7 : p ≠ p7 := ne_of_none (sd _ _ (sl _ _ (st _ _ hp0))) n7
        refine ⟨p, l, p7, ms, 2 * i, _, rfl, np7, hW.same (st.trans st1), by omega, hms, SqL.of e7, by simp, by simp, fun x Hx hx Wx kx => ?_⟩
        have et' := kx _ npt _ (st1 _ _ et)
        have el' := kx _ npl _ (s7 _ _ (sd _ _ el))
        have ed' := kx _ npd _ (s7 _ _ ed)
        have hpx : ∃ o, Hx p = some o := by
          obtain ⟨_, _, t, r, _, _, _, h6⟩ := Wx
          exact ⟨_, h6⟩
        obtain ⟨ox, hpx⟩ := hpx
        refine ⟨_, rfl, by simp, fun pe He ne se ee => ?_⟩
        refine ⟨by simp, fun p4 H4 n4 s4 e4 => ?_⟩
        have npe : pe ≠ p := (ne_of_none hpx ne).symm
        have np4 : p ≠ p4 := ne_of_none (se _ _ hpx) n4
        have s' := se.trans s4
        refine ⟨p, l, p4, ms, 2 * i + 1, _, rfl, np4, Wx.same s', by omega, hms, SqL.of e4, by simp, by simp, fun y Hy hy Wy ky => ?_⟩
        obtain ⟨d, hd, od⟩ := one_data (K := K) hx (ky _ npt _ (s' _ _ et')) (ky _ npl _ (s' _ _ el')) (ky _ npd _ (s' _ _ ed'))
        obtain ⟨e, he, oe⟩ := oth_data (K := K) hy (ky _ npe _ (s4 _ _ ee))
        exact ⟨_, _, rfl, x, y, d, e, _, _, _, _, _, _, _, _, _, _, _, _, rfl, Wy, hd, he, od, oe⟩
      · rintro σ H ⟨one, other, d, e, v2, v5, v6, v7, v8, v9, v10, v11, v12, v13, v14, v15, rfl, hW, hd, he, od, oe⟩
        -- some
        refine ⟨_, rfl, _, rfl, fun a0 H0 s0 x0 => ?_⟩
        refine ⟨_, rfl, _, rfl, fun a1 H1 s1 x1 => ?_⟩
        refine ⟨_, rfl, _, rfl, fun a2 H2 s2 x2 => ?_⟩
        refine ⟨_, rfl, _, rfl, fun a3 H3 s3 x3 => ?_⟩
        refine ⟨_, rfl, _, rfl, fun a4 H4 s4 x4 => ?_⟩
        refine ⟨_, rfl, _, rfl, fun a5 H5 s5 x5 => ?_⟩
        refine ⟨_, rfl, _, rfl, fun a6 H6 s6 x6 => ?_⟩
        refine ⟨_, rfl, _, rfl, fun a7 H7 s7 x7 => ?_⟩
        refine ⟨by simp, fun p5 Hs ns ss es => ?_⟩
        -- named
        refine ⟨_, rfl, _, rfl, fun b0 G0 t0 y0 => ?_⟩
        refine ⟨_, rfl, _, rfl, fun b1 G1 t1 y1 => ?_⟩
        refine ⟨_, rfl, _, rfl, fun b2 G2 t2 y2 => ?_⟩
        refine ⟨_, rfl, _, rfl, fun b3 G3 t3 y3 => ?_⟩
        refine ⟨_, rfl, _, rfl, fun b4 G4 t4 y4 => ?_⟩
        refine ⟨_, rfl, _, rfl, fun b5 G5 t5 y5 => ?_⟩
        refine ⟨_, rfl, _, rfl, fun b6 G6 t6 y6 => ?_⟩
        refine ⟨by simp, fun p6 Gs n6 ts e6 => ?_⟩
        refine ⟨_, rfl, Or.inl ⟨rfl, _, SqL.of e6⟩, _, rfl, _, rfl, fun b7 G7 t7 y7 => ?_⟩
        refine ⟨_, _, _, rfl, rfl, t7 _ _ e6, by show 7 < sizeLine; decide, ?_⟩
        -- the heap behind the append
        have u0 := s1.trans (s2.trans (s3.trans (s4.trans (s5.trans (s6.trans (s7.trans ss))))))
        have w0 := t1.trans (t2.trans (t3.trans (t4.trans (t5.trans t6))))
        have put : ∀ {Hb : Hp} (o : HO), Hb p6 = none → Same Hb G7 → Same Hb (upd G7 p6 o) := fun o n s b u z => by
          rw [upd_ne (ne_of_none z n)]
          exact s b u z
        have g6 : Same G6 (upd G7 p6 (.lst [.ref b0, .ref b1, .ref b2, .ref b3, .ref b4, .ref b5, .ref b6, .ref b7])) := put _ n6 (ts.trans t7)
        have e6' : upd G7 p6 (.lst [.ref b0, .ref b1, .ref b2, .ref b3, .ref b4, .ref b5, .ref b6, .ref b7]) p6 = some (.lst [.ref b0, .ref b1, .ref b2, .ref b3, .ref b4, .ref b5, .ref b6, .ref b7]) := upd_same
        have z7 : ExV (upd G7 p6 (.lst [.ref b0, .ref b1, .ref b2, .ref b3, .ref b4, .ref b5, .ref b6, .ref b7])) b7 c.cValu [("part", one)] := y7.put (t7 _ _ e6)
        show tSeq _ _ _ _ (upd G7 p6 (.lst [.ref b0, .ref b1, .ref b2, .ref b3, .ref b4, .ref b5, .ref b6, .ref b7]))
        revert g6 e6' z7
        generalize upd G7 p6 (.lst [.ref b0, .ref b1, .ref b2, .ref b3, .ref b4, .ref b5, .ref b6, .ref b7]) = Hb
        intro g6 e6' z7
        have uH : Same H Hb := s0.trans (u0.trans (t0.trans (w0.trans g6)))
        have es' := g6 _ _ (w0 _ _ (t0 _ _ es))
        replace x0 := x0.same (u0.trans (t0.trans (w0.trans g6)))
        replace x1 := x1.same (s2.trans (s3.trans (s4.trans (s5.trans (s6.trans (s7.trans (ss.trans (t0.trans (w0.trans g6)))))))))
        replace x2 := x2.same (s3.trans (s4.trans (s5.trans (s6.trans (s7.trans (ss.trans (t0.trans (w0.trans g6))))))))
        replace x3 := x3.same (s4.trans (s5.trans (s6.trans (s7.trans (ss.trans (t0.trans (w0.trans g6)))))))
        replace x4 := x4.same (s5.trans (s6.trans (s7.trans (ss.trans (t0.trans (w0.trans g6))))))
        replace x5 := x5.same (s6.trans (s7.trans (ss.trans (t0.trans (w0.trans g6)))))
        replace x6 := x6.same (s7.trans (ss.trans (t0.trans (w0.trans g6))))
        replace x7 := x7.same (ss.trans (t0.trans (w0.trans g6)))
        replace y0 := y0.same (w0.trans g6)
        replace y1 := y1.same (t2.trans (t3.trans (t4.trans (t5.trans (t6.trans g6)))))
        replace y2 := y2.same (t3.trans (t4.trans (t5.trans (t6.trans g6))))
        replace y3 := y3.same (t4.trans (t5.trans (t6.trans g6)))
        replace y4 := y4.same (t5.trans (t6.trans g6))
        replace y5 := y5.same (t6.trans g6)
        replace y6 := y6.same g6
        clear g6 e6 t7 put u0 w0 t0 t1 t2 t3 t4 t5 t6 ts ss s0 s1 s2 s3 s4 s5 s6 s7 n6 ns es
        replace od := od.same uH
        replace oe := oe.same uH
        replace hW := hW.same uH
        clear uH
        have all1 : ∀ i z, [V.ref a0, .ref a1, .ref a2, .ref a3, .ref a4, .ref a5, .ref a6, .ref a7, .ref b0, .ref b1, .ref b2, .ref b3, .ref b4, .ref b5, .ref b6, .ref b7][i]? = some z → ∃ a j, j < 8 ∧ z = .ref a ∧ ExV Hb a (c.cs.getD j 0) [("part", one)] ∧ (i < 8 → j = i) := by
          intro i z hz
          match i, hz with
          | 0, hz => cases hz; exact ⟨_, 0, by decide, rfl, x0, fun _ => rfl⟩
          | 1, hz => cases hz; exact ⟨_, 1, by decide, rfl, x1, fun _ => rfl⟩
          | 2, hz => cases hz; exact ⟨_, 2, by decide, rfl, x2, fun _ => rfl⟩
          | 3, hz => cases hz; exact ⟨_, 3, by decide, rfl, x3, fun _ => rfl⟩
          | 4, hz => cases hz; exact ⟨_, 4, by decide, rfl, x4, fun _ => rfl⟩
          | 5, hz => cases hz; exact ⟨_, 5, by decide, rfl, x5, fun _ => rfl⟩
          | 6, hz => cases hz; exact ⟨_, 6, by decide, rfl, x6, fun _ => rfl⟩
          | 7, hz => cases hz; exact ⟨_, 7, by decide, rfl, x7, fun _ => rfl⟩
          | 8, hz => cases hz; exact ⟨_, 0, by decide, rfl, y0, fun h => absurd h (by decide)⟩
          | 9, hz => cases hz; exact ⟨_, 1, by decide, rfl, y1, fun h => absurd h (by decide)⟩
          | 10, hz => cases hz; exact ⟨_, 2, by decide, rfl, y2, fun h => absurd h (by decide)⟩
          | 11, hz => cases hz; exact ⟨_, 3, by decide, rfl, y3, fun h => absurd h (by decide)⟩
          | 12, hz => cases hz; exact ⟨_, 4, by decide, rfl, y4, fun h => absurd h (by decide)⟩
          | 13, hz => cases hz; exact ⟨_, 5, by decide, rfl, y5, fun h => absurd h (by decide)⟩
          | 14, hz => cases hz; exact ⟨_, 6, by decide, rfl, y6, fun h => absurd h (by decide)⟩
          | 15, hz => cases hz; exact ⟨_, 7, by decide, rfl, z7, fun h => absurd h (by decide)⟩
          | n + 16, hz => cases hz
        obtain ⟨ok1, ok2⟩ := oks d hd
        -- the fields of both
        refine ⟨_, rfl, _, rfl, p5, p6, _, _, rfl, rfl, es', e6', by simp, fun pc Hc nc sc ec => ?_⟩
        replace ec : Hc pc = some (.lst [.ref a0, .ref a1, .ref a2, .ref a3, .ref a4, .ref a5, .ref a6, .ref a7, .ref b0, .ref b1, .ref b2, .ref b3, .ref b4, .ref b5, .ref b6, .ref b7]) := ec
        refine ⟨pc, rfl, ⟨_, SqL.of ec⟩, fun pr hD => lc_new (walk_list (xs := [.ref a0, .ref a1, .ref a2, .ref a3, .ref a4, .ref a5, .ref a6, .ref a7, .ref b0, .ref b1, .ref b2, .ref b3, .ref b4, .ref b5, .ref b6, .ref b7])) hD (List.replicate 16 one) rfl (by show 16 ≤ 1000000; decide) (fun H s => s.seq (SqL.of ec)) (fun i H x H' y => by rw [y.1]; exact Same.refl H) (fun i x z H H' Qn R hi hz s y q => ?_) (fun Hr sr er => ?_)⟩
        · obtain ⟨rfl, y2⟩ := y
          obtain ⟨ax, j, hj, rfl, ⟨dx, h1, h2⟩, _⟩ := all1 i x y2
          have ez : z = one := List.eq_of_mem_replicate (List.mem_of_getElem? hz)
          subst ez
          have s' := sc.trans s
          refine ⟨rfl, yes ⟨_, rfl, ax, _, dx, _, z, rfl, s' _ _ h1, s' _ _ h2, T.att (by omega), T.part hj, by rfl, q _ (Same.refl _)⟩⟩
        · refine ⟨pr, _, _, rfl, er, OneAll.rep (od.same (sc.trans sr)) 16, ok1, _, rfl, by simp, fun pl Hl nl sl el => ⟨pl, 16, one, rfl, rfl, el, by decide, fun pz Hz nz sz ez => ?_⟩⟩
          refine ⟨pz, _, _, rfl, ez, OneAll.rep (od.same (sc.trans (sr.trans (sl.trans sz)))) 16, ok1, rfl, _, rfl, neSelf ?_⟩
          have sH := sc.trans (sr.trans (sl.trans sz))
          -- rest
          refine ⟨_, rfl, _, rfl, _, _, rfl, fun r0 R0 g0 q0 => ?_⟩
          refine ⟨_, rfl, _, rfl, fun r1 R1 g1 q1 => ?_⟩
          refine fun r2 R2 g2 q2 => ?_
          refine ⟨_, rfl, _, rfl, _, _, rfl, fun r3 R3 g3 q3 => ?_⟩
          refine ⟨by simp, fun p7 Hp7 n7 g4 e7 => ?_⟩
          -- by_name
          refine ⟨_, rfl, _, rfl, _, _, rfl, fun m0 M0 f0 l0 => ?_⟩
          refine ⟨_, rfl, _, rfl, fun m1 M1 f1 l1 => ?_⟩
          refine fun m2 M2 f2 l2 => ?_
          refine ⟨_, rfl, _, rfl, _, _, rfl, fun m3 M3 f3 l3 => ?_⟩
          refine ⟨by simp, fun p8 Hp8 n8 f4 e8 => ?_⟩
          have f04 := f0.trans (f1.trans (f2.trans (f3.trans f4)))
          have f14 := f1.trans (f2.trans (f3.trans f4))
          have g14 := g1.trans (g2.trans (g3.trans g4))
          replace q0 := q0.same (g14.trans f04)
          replace q1 := q1.same ((g2.trans (g3.trans g4)).trans f04)
          replace q2 := ((g3.trans g4).trans f04) _ _ q2
          replace q3 := q3.same (g4.trans f04)
          replace l0 := l0.same f14
          replace l1 := l1.same (f2.trans (f3.trans f4))
          replace l2 := (f3.trans f4) _ _ l2
          replace l3 := l3.same f4
          have s8 : Same Hb Hp8 := sH.trans (g0.trans (g14.trans f04))
          replace e7 := f04 _ _ e7
          have e5 := s8 _ _ es'
          replace od := od.same s8
          replace oe := oe.same s8
          replace hW := hW.same s8
          have all1' : ∀ i z, [V.ref a0, .ref a1, .ref a2, .ref a3, .ref a4, .ref a5, .ref a6, .ref a7][i]? = some z → ∃ a, z = .ref a ∧ i < 12 ∧ ExAtC Hp8 a (c.cs.getD i 0) := by
            intro i z hz
            have hi : i < 8 := (List.getElem?_eq_some_iff.mp hz).1
            obtain ⟨ax, j, hj, e1, h1, h2⟩ := all1 i z (by rw [← hz]; exact List.getElem?_append_left (l₁ := [V.ref a0, .ref a1, .ref a2, .ref a3, .ref a4, .ref a5, .ref a6, .ref a7]) (l₂ := [V.ref b0, .ref b1, .ref b2, .ref b3, .ref b4, .ref b5, .ref b6, .ref b7]) hi)
            rw [h2 hi] at h1
            exact ⟨ax, e1, by omega, (h1.same s8).at⟩
          have all2 : ∀ i z, [V.ref a0, .ref a1, .ref a2, .ref a3, .ref a4, .ref a5, .ref a6, .ref a7, .ref r0, .ref r1, .ref r2, .ref r3][i]? = some z → ∃ a, z = .ref a ∧ i < 12 ∧ ExAtC Hp8 a (c.cs.getD i 0) := by
            intro i z hz
            match i, hz with
            | 0, hz => exact all1' 0 z hz
            | 1, hz => exact all1' 1 z hz
            | 2, hz => exact all1' 2 z hz
            | 3, hz => exact all1' 3 z hz
            | 4, hz => exact all1' 4 z hz
            | 5, hz => exact all1' 5 z hz
            | 6, hz => exact all1' 6 z hz
            | 7, hz => exact all1' 7 z hz
            | 8, hz => cases hz; exact ⟨_, rfl, by decide, q0.at⟩
            | 9, hz => cases hz; exact ⟨_, rfl, by decide, q1.at⟩
            | 10, hz => cases hz; exact ⟨_, rfl, by decide, .inl q2⟩
            | 11, hz => cases hz; exact ⟨_, rfl, by decide, q3.at⟩
            | n + 12, hz => cases hz
          clear all1 all1' x0 x1 x2 x3 x4 x5 x6 x7 y0 y1 y2 y3 y4 y5 y6 y7 z7 f04 f14 g14 f0 f1 f2 f3 f4 g0 g1 g2 g3 g4 sH sc sr sl sz es' s8 n7 n8 ec er el ez nc hD nl nz e6'
          -- for .. in [rest, by_name]
          refine ⟨_, rfl, _, rfl, by simp, fun pf Hf nf sf ef => ⟨pf, rfl, ⟨_, SqL.of ef⟩, for_it (walk_list (xs := [.ref p7, .ref p8])) (fun _ σ H => ∃ v9 v10 v11 v12, σ = [some (.ref a), some (.ref p), v2, some one, some other, some (.ref p5), some (.ref p6), some (.ref p7), some (.ref p8), v9, v10, v11, v12, v13, v14, v15] ∧ Same Hf H) ⟨_, _, _, _, rfl, Same.refl _⟩ (fun i σ H _ h => by obtain ⟨_, _, _, _, _, h⟩ := h; exact h.seq (SqL.of ef)) ?_ ?_⟩⟩
          · rintro i z σ H H' hi ⟨v9, v10, v11, v12, rfl, s⟩ ⟨rfl, hz⟩
            have h4 : ∃ q t0 t1 t2 t3, z = .ref q ∧ H' q = some (.lst [.ref t0, .ref t1, .ref t2, .ref t3]) ∧ ExV H' t0 c.cText [("word", other), ("line", one)] ∧ ExV H' t1 c.cComm [("word", one)] ∧ ExV H' t3 c.cMany [("most", other), ("what", one)] := by
              have sS := sf.trans s
              match i, hz with
              | 0, hz => cases hz; exact ⟨p7, r0, r1, r2, r3, rfl, sS _ _ e7, q0.same sS, q1.same sS, q3.same sS⟩
              | 1, hz => cases hz; exact ⟨p8, m0, m1, m2, m3, rfl, sS _ _ e8, l0.same sS, l1.same sS, l3.same sS⟩
              | n + 2, hz => cases hz
            obtain ⟨q, t0, t1, t2, t3, rfl, eq, ⟨d0, w0, w0'⟩, ⟨d1, w1, w1'⟩, ⟨d3, w3, w3'⟩⟩ := h4
            refine ⟨q, _, rfl, SqL.of eq, rfl, _, _, rfl, _, _, rfl, _, _, rfl, _, _, rfl, rfl, ?_⟩
            refine ⟨_, rfl, t0, _, d0, _, one, rfl, w0, w0', T.acText, T.p1cText, by rfl, ?_⟩
            refine ⟨_, rfl, t0, _, d0, _, other, rfl, w0, w0', T.acText, T.p2cText, by rfl, ?_⟩
            refine ⟨_, rfl, t1, _, d1, _, one, rfl, w1, w1', T.acComm, T.p1cComm, by rfl, ?_⟩
            refine ⟨_, rfl, t3, _, d3, _, one, rfl, w3, w3', T.acMany, T.p1cMany, by rfl, ?_⟩
            refine ⟨_, rfl, t3, _, d3, _, other, rfl, w3, w3', T.acMany, T.p2cMany, by rfl, ?_⟩
            refine ⟨by simp, fun pu Hu nu su eu => ?_⟩
            have od' := (od.same (sf.trans s)).same su
            have oe' := (oe.same (sf.trans s)).same su
            refine ⟨pu, _, [d, e, d, d, e], rfl, eu, .cons od' (.cons oe' (.cons od' (.cons od' (.cons oe' .nil)))), ok2 e he, ?_⟩
            refine ⟨_, rfl, _, rfl, _, rfl, _, rfl, _, rfl, by simp, fun pv Hv nv sv ev => ?_⟩
            replace od' := od'.same sv
            replace oe' := oe'.same sv
            refine ⟨pv, _, [d, e, d, d, e], rfl, ev, .cons od' (.cons oe' (.cons od' (.cons od' (.cons oe' .nil)))), ok2 e he, rfl, _, rfl, neSelf ?_⟩
            exact ⟨_, _, _, _, rfl, s.trans (su.trans sv)⟩
          · rintro σ H ⟨v9, v10, v11, v12, rfl, s⟩
            have sS := sf.trans s
            -- for at, error in enumerate(some + rest)
            refine ⟨_, rfl, _, rfl, p5, p7, _, _, rfl, rfl, sS _ _ e5, sS _ _ e7, by simp, fun pc Hc nc sc ec => ?_⟩
            replace ec : Hc pc = some (.lst [.ref a0, .ref a1, .ref a2, .ref a3, .ref a4, .ref a5, .ref a6, .ref a7, .ref r0, .ref r1, .ref r2, .ref r3]) := ec
            refine ⟨pc, _, rfl, SqL.of ec, for_it (walk_enum (xs := [.ref a0, .ref a1, .ref a2, .ref a3, .ref a4, .ref a5, .ref a6, .ref a7, .ref r0, .ref r1, .ref r2, .ref r3])) (fun _ σ H => ∃ v13 v14, σ = [some (.ref a), some (.ref p), v2, some one, some other, some (.ref p5), some (.ref p6), some (.ref p7), some (.ref p8), v9, v10, v11, v12, v13, v14, v15] ∧ Same Hc H) ⟨_, _, rfl, Same.refl _⟩ (fun i σ H _ h => by obtain ⟨_, _, _, h⟩ := h; exact h.seq (SqL.of ec)) ?_ ?_⟩
            · rintro i z σ H H' hi ⟨v13, v14, rfl, s2⟩ ⟨Tt, x, y, rfl, hT, rfl, hx, hy⟩
              have sT : Same H (upd H Tt (.tup [x, y])) := same1 hT
              have eT : upd H Tt (.tup [x, y]) Tt = some (.tup [x, y]) := upd_same
              revert sT eT
              generalize upd H Tt (.tup [x, y]) = H'
              intro sT eT
              cases hx
              obtain ⟨ax, rfl, hi', hx⟩ := all2 i y hy
              have s3 := sS.trans (sc.trans (s2.trans sT))
              replace hx := exAtSame hx s3
              obtain ⟨v1, v2'⟩ := dds i hi'
              refine ⟨Tt, _, rfl, SqT.of eT, rfl, _, _, rfl, _, _, rfl, rfl, ?_⟩
              refine ⟨_, rfl, ax, i, rfl, hi', hx, fun pq Hq sq nq eq => ?_⟩
              refine ⟨12, rfl, by decide, by decide, fun pr hD => lc_new (walk_range (lo := 0) (n := 12)) hD ((List.range 12).map fun j => V.bl (decide (i = j))) rfl (by decide) (fun _ _ => trivial) (fun i H x H' y => by rw [y.1]; exact Same.refl H) (fun j x z H H' Qn R hj hz s y q => ?_) (fun Hr sr er => ?_)⟩
              · obtain ⟨rfl, rfl⟩ := y
                refine ⟨rfl, yes ⟨_, rfl, _, rfl, rfl, ?_⟩⟩
                have ez : z = .bl (decide (i = j)) := by
                  rw [List.getElem?_map, List.getElem?_range hj] at hz
                  exact (Option.some.inj hz).symm
                rw [ez] at q
                have eb : decide (V.int (0 + (j : Int)) = V.int (i : Int)) = decide (i = j) := by
                  rw [Int.zero_add]
                  refine decide_eq_decide.mpr ⟨fun h => ?_, fun h => by rw [h]⟩
                  have := V.int.inj h
                  omega
                rw [eb]
                exact q _ (Same.refl _)
              · refine ⟨_, _, .lst (SqL.of (sr _ _ eq)) (dpBools _ _), .lst (SqL.of er) (dpBools _ _), v1, v1, _, rfl, ?_⟩
                rw [v2']
                refine iteF ?_
                have hx2 := exAtSame hx (sq.trans sr)
                refine ⟨_, rfl, ax, _, .ref c.cMErr, .ref c.cMErr, true, rfl, hx2, T.att hi', fun u z => z, T.kitM i hi', _, rfl, iteF ?_⟩
                refine ⟨_, rfl, ax, _, .ty ValErr, .type ValErr, true, rfl, hx2, T.att hi', fun u z => z, T.kitV i hi', _, rfl, ?_⟩
                exact ⟨_, _, rfl, s2.trans (sT.trans (sq.trans sr))⟩
            · rintro σ H ⟨v13, v14, rfl, s2⟩
              have s3 := sS.trans (sc.trans s2)
              refine ⟨_, rfl, _, rfl, p5, p7, _, _, rfl, rfl, s3 _ _ e5, s3 _ _ e7, by simp, fun pd Hd nd sd ed => ?_⟩
              replace ed : Hd pd = some (.lst [.ref a0, .ref a1, .ref a2, .ref a3, .ref a4, .ref a5, .ref a6, .ref a7, .ref r0, .ref r1, .ref r2, .ref r3]) := ed
              refine ⟨pd, rfl, ⟨_, SqL.of ed⟩, fun pr hD => lc_new (walk_list (xs := [.ref a0, .ref a1, .ref a2, .ref a3, .ref a4, .ref a5, .ref a6, .ref a7, .ref r0, .ref r1, .ref r2, .ref r3])) hD ((List.range 12).map fun j => V.bl (decide (j < 8))) rfl (by show 12 ≤ 1000000; decide) (fun H s => s.seq (SqL.of ed)) (fun i H x H' y => by rw [y.1]; exact Same.refl H) (fun j x z H H' Qn R hj hz s y q => ?_) (fun Hr sr er => ?_)⟩
              · obtain ⟨rfl, y2⟩ := y
                obtain ⟨ax, rfl, hj', hx⟩ := all2 j x y2
                have ez : z = .bl (decide (j < 8)) := by
                  rw [List.getElem?_map, List.getElem?_range hj'] at hz
                  exact (Option.some.inj hz).symm
                rw [ez] at q
                exact ⟨rfl, yes ⟨_, rfl, ax, _, .ref c.cPart, .ref c.cPart, _, rfl, exAtSame hx (s3.trans (sd.trans s)), T.att hj', fun u z => z, T.kitP j hj', q _ (Same.refl _)⟩⟩
              · refine ⟨by simp, fun pt Ht nt st et => ⟨pt, 8, _, rfl, rfl, et, by decide, fun p8a H8a n8a s8a e8a => ?_⟩⟩
                refine ⟨by simp, fun pu Hu nu su eu => ⟨pu, 4, _, rfl, rfl, eu, by decide, fun p4a H4a n4a s4a e4a => ?_⟩⟩
                refine ⟨p8a, p4a, _, _, rfl, rfl, s4a _ _ (su _ _ e8a), e4a, by simp, fun pw Hw nw sw ew => ?_⟩
                have eb : List.replicate 8 (V.bl true) ++ List.replicate 4 (V.bl false) = (List.range 12).map fun j => V.bl (decide (j < 8)) := rfl
                rw [eb] at ew
                refine ⟨_, _, .lst (SqL.of (sw _ _ (s4a _ _ (su _ _ (s8a _ _ (st _ _ er)))))) (dpBools _ _), .lst (SqL.of ew) (dpBools _ _), by decide, by decide, _, rfl, ?_⟩
                have eq : PyData.eqv (.list ((List.range 12).map fun j => PyData.bool (decide (j < 8)))) (.list ((List.range 12).map fun j => PyData.bool (decide (j < 8)))) = true := by decide
                rw [eq]
                refine iteF ?_
                have sE := s3.trans (sd.trans (sr.trans (st.trans (s8a.trans (su.trans (s4a.trans sw))))))
                exact ⟨_, _, _, _, _, _, _, _, _, _, _, _, _, _, rfl, hW.same sE⟩
    · rintro σ H ⟨v2, v3, v4, v5, v6, v7, v8, v9, v10, v11, v12, v13, v14, v15, rfl, hW⟩
      exact k _
end
end K00

/-! What the written part says of an own exception class, asked by one Bool. -/
namespace Ck
open PySem PySem.Spec L2 Fx
def veT : List Value := [.type "ValueError", .type "Exception", .type "BaseException", .type "object"]
def eO (a b : Option (Option Value)) : Bool := decide (a = b)
theorem eO_ok {a b : Option (Option Value)} (h : eO a b = true) : a = b := of_decide_eq_true h
def eB (a : Option Bool) (b : Bool) : Bool := match a with
  | some c => c == b
  | none => false
theorem eB_ok {a : Option Bool} {b : Bool} (h : eB a b = true) : a = some b := by
  cases a with
  | none => cases h
  | some c => exact congrArg some (beq_iff_eq.mp h)
theorem ba {a b : Bool} (h : (a && b) = true) : a = true ∧ b = true := Bool.and_eq_true_iff.mp h
def clsB (K : PySem.W.Frag) (C : Addr) : Bool := match K.lookup C with
  | some ⟨.type "type", _, .cls cd, sl⟩ => (match cd.mro, sl.toList with
    | .ref C' :: bm, [_, _, _, _, some (.builtin n), _] => C' == C && n == "ValueError.__new__" && !cd.hasDel && cd.hasDict && PySem.HandSPX.refsVE bm
    | _, _ => false)
  | _ => false
theorem clsB_ok {K : PySem.W.Frag} {C : Addr} (q : clsB K C = true) :
    ∃ nm q N bs bm sn sub ab col dd k0 k1 k2 k3 k5, K.lookup C = some (excClassObj nm q C N bs bm true sn sub ab col dd k0 k1 k2 k3 k5 "ValueError.__new__") ∧ PySem.HandSPX.refsVE bm = true := by
  unfold clsB at q
  split at q
  · rename_i dd cd sl ho
    split at q
    · rename_i C' bm k0 k1 k2 k3 n k5 hm hs
      simp only [Bool.and_eq_true, beq_iff_eq, Bool.not_eq_true'] at q
      obtain ⟨⟨⟨⟨rfl, rfl⟩, hdel⟩, hd⟩, hr⟩ := q
      obtain ⟨nm, bs, mro, ns, qn, hd', sn, sub, ab, col, del⟩ := cd
      dsimp only at hm hdel hd
      subst hm hdel hd
      have hsl : sl = #[k0, k1, k2, k3, some (.builtin "ValueError.__new__"), k5] := by
        obtain ⟨l⟩ := sl
        simp only at hs
        rw [hs]
      subst hsl
      exact ⟨nm, qn, ns, bs, bm, sn, sub, ab, col, dd, k0, k1, k2, k3, k5, ho, hr⟩
    · cases q
  · cases q
def tyB (a : Option Value) (b : Value) : Bool := decide (a = some b)
/-- the class, made and read as an exception -/
def exB (K : PySem.W.Frag) (C : Addr) : Bool := clsB K C && (eO (PySem.W.findIn K (.ref C) "__setattr__") (some (some (.builtin "object.__setattr__"))) && (eB (PySem.W.subIn K (.ref C) (.type "BaseException")) true && (tyB (PySem.W.typeIn K (.ref C)) (.type "type") && PySem.W.keepIn K (.ref C))))
theorem exB_ok {K : PySem.W.Frag} {C : Addr} (h : exB K C = true) : OexC K C := by
  obtain ⟨h1, h⟩ := ba h
  obtain ⟨h2, h⟩ := ba h
  obtain ⟨h3, h⟩ := ba h
  obtain ⟨h4, h5⟩ := ba h
  exact ⟨clsB_ok h1, eO_ok h2, eB_ok h3, of_decide_eq_true h4, h5⟩
def atB (K : PySem.W.Frag) (C : Addr) : Bool := eO (PySem.W.findIn K (.ref C) "__getattribute__") (some (some (.builtin "BaseException.__getattribute__"))) && (eO (PySem.W.findIn K (.ref C) "__getattr__") (some none) && (eB (PySem.W.subIn K (.ref C) (.type "BaseException")) true &&
  (PySem.W.hasDictIn K C && (eO (PySem.W.findIn K (.ref C) "__class__") (some (some (.builtin "object.__class__"))) && (eO (PySem.W.specialIn K (.builtin "object.__class__") "__get__") (some (some (.builtin "getset_descriptor.__get__"))) &&
  (eB (PySem.W.takesIn K (.builtin "object.__class__")) true && eB (PySem.W.mroIn K C (.type "object")) true))))))
theorem atB_ok {K : PySem.W.Frag} {C : Addr} (h : atB K C = true) : ExAttr K C := by
  obtain ⟨h1, h⟩ := ba h
  obtain ⟨h2, h⟩ := ba h
  obtain ⟨h3, h⟩ := ba h
  obtain ⟨h4, h⟩ := ba h
  obtain ⟨h5, h⟩ := ba h
  obtain ⟨h6, h⟩ := ba h
  obtain ⟨h7, h8⟩ := ba h
  exact ⟨eO_ok h1, eO_ok h2, eB_ok h3, h4, eO_ok h5, eO_ok h6, eB_ok h7, eB_ok h8⟩
/-- .. whose __init__ is that of D, at fI, over ValueError's -/
def xcB (K : PySem.W.Frag) (C D fI : Addr) : Bool := exB K C && (eO (PySem.W.findIn K (.ref C) "__init__") (some (some (.ref fI))) && (eB (PySem.W.mroIn K C (.ref D)) true && (eO (PySem.W.ks_superIn K C D "__init__") (some (some (.builtin "ValueError.__init__"))) && eB (PySem.W.subIn K (.ref C) (.type "ValueError")) true)))
theorem xcB_ok {K : PySem.W.Frag} {C D fI : Addr} (h : xcB K C D fI = true) : XC K C D fI := by
  obtain ⟨h1, h⟩ := ba h
  obtain ⟨h2, h⟩ := ba h
  obtain ⟨h3, h⟩ := ba h
  obtain ⟨h4, h5⟩ := ba h
  exact { exB_ok h1 with iC := eO_ok h2, sub := eB_ok h3, sup := eO_ok h4, ve := eB_ok h5 }
def noB (K : PySem.W.Frag) (C : Addr) (f : Str) : Bool := eO (PySem.W.findIn K (.ref C) f) (some none)
theorem noB_ok {K : PySem.W.Frag} {C : Addr} {f : Str} (h : noB K C f = true) : PySem.W.findIn K (.ref C) f = some none := eO_ok h
def nothB (K : PySem.W.Frag) (C : Addr) : Bool := PySem.W.excIn K C veT "ValueError.__new__" && PySem.W.keepIn K (.ref C)
/-- a table of isinstance: rows classes, columns classes -/
def kitB (K : PySem.W.Frag) (cs : List Addr) (ds : List Value) (b : Nat → Nat → Bool) : Bool := (List.range cs.length).all fun i => (List.range ds.length).all fun j => eB (PySem.W.kitOne K (.ref (cs.getD i 0)) (ds.getD j .none)) (b i j)
theorem kitB_ok {K : PySem.W.Frag} {cs : List Addr} {ds : List Value} {b : Nat → Nat → Bool} (h : kitB K cs ds b = true) {i j : Nat} (hi : i < cs.length) (hj : j < ds.length) : PySem.W.kitOne K (.ref (cs.getD i 0)) (ds.getD j .none) = some (b i j) := by
  have h1 := List.all_eq_true.mp h i (List.mem_range.mpr hi)
  exact eB_ok (List.all_eq_true.mp h1 j (List.mem_range.mpr hj))
end Ck

namespace K00
open PySem PySem.Spec L2 NdefX Fx Gd Ck
def ck (K : PySem.W.Frag) (c : CA) : Bool :=
  xcB K c.cFace c.cPart c.fP && (atB K c.cFace && (noB K c.cFace "part" && (xcB K c.cMann c.cPart c.fP && (atB K c.cMann && (noB K c.cMann "part" && (xcB K c.cMatc c.cPart c.fP && (atB K c.cMatc && (noB K c.cMatc "part" && (xcB K c.cSpot c.cPart c.fP && (atB K c.cSpot && (noB K c.cSpot "part" && (xcB K c.cPlac c.cPart c.fP && (atB K c.cPlac && (noB K c.cPlac "part" && (xcB K c.cDriv c.cPart c.fP && (atB K c.cDriv && (noB K c.cDriv "part" && (xcB K c.cNumb c.cPart c.fP && (atB K c.cNumb && (noB K c.cNumb "part" && (xcB K c.cValu c.cPart c.fP && (atB K c.cValu && (noB K c.cValu "part" && (atB K c.cText && (atB K c.cComm && (atB K c.cNoth && (atB K c.cMany && (xcB K c.cText c.cText c.fT && (noB K c.cText "line" && (noB K c.cText "word" && (xcB K c.cComm c.cComm c.fC && (noB K c.cComm "word" && (xcB K c.cMany c.cMany c.fM && (noB K c.cMany "what" && (noB K c.cMany "most" && (PySem.W.excIn K c.cNoth veT "ValueError.__new__" && (PySem.W.keepIn K (.ref c.cNoth) && (kitB K c.cs (c.cs.map .ref) (fun i j => decide (i = j)) && (kitB K c.cs [.ref c.cPart, .ref c.cMErr, .type "ValueError"] (fun i j => j != 0 || decide (i < 8)) && (tyB (PySem.W.typeIn K (.ref c.fP)) (.type "function") && (tyB (PySem.W.typeIn K (.ref c.fT)) (.type "function") && (tyB (PySem.W.typeIn K (.ref c.fC)) (.type "function") && (tyB (PySem.W.typeIn K (.ref c.fM)) (.type "function") && ((PySem.W.clsIn K c.cPart).isSome && ((PySem.W.clsIn K c.cText).isSome && ((PySem.W.clsIn K c.cComm).isSome && ((PySem.W.clsIn K c.cMany).isSome)))))))))))))))))))))))))))))))))))))))))))))))
theorem getDmap {as : List Addr} {j : Nat} (hj : j < as.length) : (as.map Value.ref).getD j .none = .ref (as.getD j 0) := by
  rw [List.getD_eq_getElem?_getD, List.getD_eq_getElem?_getD, List.getElem?_map, List.getElem?_eq_getElem hj]
  rfl
theorem all_mk {P : Program} {w : World} {K : PySem.W.Frag} {h : Heap} {mg : Str → Option Value} {fa : Addr} (X : K.In h) (G : h.Ns mainGlobals mg) (hfa : mg "law" = some (.ref fa))
    {acFace acMann acMatc acSpot acPlac acDriv acNumb acValu acText acComm acNoth acMany acPart acMErr fP fT fC fM : Addr}
    {fW : Addr} {ocW kVW dcW pmW cdW ctW : Value} {odW anW : Option Addr} {slW : Array (Option Value)}
    {fD : Addr} {ocD kVD dcD pmD cdD ctD : Value} {odD anD : Option Addr} {slD : Array (Option Value)}
    {fO : Addr} {ocO kVO dcO pmO cdO ctO : Value} {odO anO : Option Addr} {slO : Array (Option Value)}
    {fK : Addr} {ocK kVK dcK pmK cdK ctK : Value} {odK anK : Option Addr} {slK : Array (Option Value)}
    {fL : Addr} {ocL kVL dcL pmL cdL ctL : Value} {odL anL : Option Addr} {slL : Array (Option Value)}
    {ccP1 coP1 : Addr} {ocP1 kVP1 dcP1 pmP1 ctP1 : Value} {odP1 anP1 : Option Addr} {slP1 : Array (Option Value)} {cclP : Value} {cddP : Option Addr} {vsP : Array Value} {ccsP : Array (Option Value)} {fiP : Str} {tfP : Tok} {celP : Value} {celdP : Option Addr} {cslP : Array (Option Value)}
    {ccT1 coT1 : Addr} {ocT1 kVT1 dcT1 pmT1 ctT1 : Value} {odT1 anT1 : Option Addr} {slT1 : Array (Option Value)} {cclT : Value} {cddT : Option Addr} {vsT : Array Value} {ccsT : Array (Option Value)} {fiT : Str} {tfT : Tok} {celT : Value} {celdT : Option Addr} {cslT : Array (Option Value)}
    {ccC1 coC1 : Addr} {ocC1 kVC1 dcC1 pmC1 ctC1 : Value} {odC1 anC1 : Option Addr} {slC1 : Array (Option Value)} {cclC : Value} {cddC : Option Addr} {vsC : Array Value} {ccsC : Array (Option Value)} {fiC : Str} {tfC : Tok} {celC : Value} {celdC : Option Addr} {cslC : Array (Option Value)}
    {ccM1 coM1 : Addr} {ocM1 kVM1 dcM1 pmM1 ctM1 : Value} {odM1 anM1 : Option Addr} {slM1 : Array (Option Value)} {cclM : Value} {cddM : Option Addr} {vsM : Array Value} {ccsM : Array (Option Value)} {fiM : Str} {tfM : Tok} {celM : Value} {celdM : Option Addr} {cslM : Array (Option Value)}
    (ncFace : PySem.W.nsIn K mainGlobals "BadFace" = some (some (.ref acFace)))
    (ncMann : PySem.W.nsIn K mainGlobals "BadManner" = some (some (.ref acMann)))
    (ncMatc : PySem.W.nsIn K mainGlobals "BadMatch" = some (some (.ref acMatc)))
    (ncSpot : PySem.W.nsIn K mainGlobals "BadSpot" = some (some (.ref acSpot)))
    (ncPlac : PySem.W.nsIn K mainGlobals "BadPlace" = some (some (.ref acPlac)))
    (ncDriv : PySem.W.nsIn K mainGlobals "BadDrive" = some (some (.ref acDriv)))
    (ncNumb : PySem.W.nsIn K mainGlobals "BadNumber" = some (some (.ref acNumb)))
    (ncValu : PySem.W.nsIn K mainGlobals "BadValue" = some (some (.ref acValu)))
    (ncText : PySem.W.nsIn K mainGlobals "BadText" = some (some (.ref acText)))
    (ncComm : PySem.W.nsIn K mainGlobals "BadCommand" = some (some (.ref acComm)))
    (ncNoth : PySem.W.nsIn K mainGlobals "Nothing" = some (some (.ref acNoth)))
    (ncMany : PySem.W.nsIn K mainGlobals "TooMany" = some (some (.ref acMany)))
    (ncPart : PySem.W.nsIn K mainGlobals "PartError" = some (some (.ref acPart)))
    (ncMErr : PySem.W.nsIn K mainGlobals "MatchError" = some (some (.ref acMErr)))
    (zint : PySem.W.nsIn K mainGlobals "int" = some none)
    (zlen : PySem.W.nsIn K mainGlobals "len" = some none)
    (zabs : PySem.W.nsIn K mainGlobals "abs" = some none)
    (zisinstance : PySem.W.nsIn K mainGlobals "isinstance" = some none)
    (zrepr : PySem.W.nsIn K mainGlobals "repr" = some none)
    (zenumerate : PySem.W.nsIn K mainGlobals "enumerate" = some none)
    (zrange : PySem.W.nsIn K mainGlobals "range" = some none)
    (zValueError : PySem.W.nsIn K mainGlobals "ValueError" = some none)
    (n_W : PySem.W.nsIn K mainGlobals "_law_well" = some (some (.ref fW)))
    (l_W : K.lookup fW = some ⟨ocW, odW, .func (PySem.W.fnOf "_law_well" "_law_well" (defArgs sWell) (defBody sWell) (defScope sWell) .none kVW dcW pmW anW cdW ctW), slW⟩)
    (c_W : PySem.W.codeIn K cdW "_law_well" = true)
    (k_W : PySem.W.keepIn K (.ref fW) = true)
    (n_D : PySem.W.nsIn K mainGlobals "_law_draw" = some (some (.ref fD)))
    (l_D : K.lookup fD = some ⟨ocD, odD, .func (PySem.W.fnOf "_law_draw" "_law_draw" (defArgs sDraw) (defBody sDraw) (defScope sDraw) .none kVD dcD pmD anD cdD ctD), slD⟩)
    (c_D : PySem.W.codeIn K cdD "_law_draw" = true)
    (k_D : PySem.W.keepIn K (.ref fD) = true)
    (n_O : PySem.W.nsIn K mainGlobals "_law_one" = some (some (.ref fO)))
    (l_O : K.lookup fO = some ⟨ocO, odO, .func (PySem.W.fnOf "_law_one" "_law_one" (defArgs sOne) (defBody sOne) (defScope sOne) .none kVO dcO pmO anO cdO ctO), slO⟩)
    (c_O : PySem.W.codeIn K cdO "_law_one" = true)
    (k_O : PySem.W.keepIn K (.ref fO) = true)
    (n_K : PySem.W.nsIn K mainGlobals "_law_classes" = some (some (.ref fK)))
    (l_K : K.lookup fK = some ⟨ocK, odK, .func (PySem.W.fnOf "_law_classes" "_law_classes" (defArgs sCls) (defBody sCls) (defScope sCls) .none kVK dcK pmK anK cdK ctK), slK⟩)
    (c_K : PySem.W.codeIn K cdK "_law_classes" = true)
    (k_K : PySem.W.keepIn K (.ref fK) = true)
    (n_L : PySem.W.nsIn K mainGlobals "law" = some (some (.ref fL)))
    (l_L : K.lookup fL = some ⟨ocL, odL, .func (PySem.W.fnOf "law" "law" (defArgs sLaw) (defBody sLaw) (defScope sLaw) .none kVL dcL pmL anL cdL ctL), slL⟩)
    (c_L : PySem.W.codeIn K cdL "law" = true)
    (k_L : PySem.W.keepIn K (.ref fL) = true)
    (i1P : PySem.W.findIn K (.ref acPart) "__init__" = some (some (.ref fP)))
    (l1P : K.lookup fP = some ⟨ocP1, odP1, .func (PySem.W.fnX "__init__" "PartError.__init__" (defArgs sP) (defBody sP) (defScope sP) [(("__class__" : Str), ccP1)] .none kVP1 dcP1 pmP1 anP1 (.ref coP1) ctP1), slP1⟩)
    (c1P : PySem.W.codeIn K (.ref coP1) "PartError.__init__" = true)
    (o1P : K.lookup coP1 = some ⟨cclP, cddP, .fields vsP, ccsP⟩)
    (v1P : vsP[2]? = some (.str fiP tfP))
    (e1P : ((P.main.file : Str) == fiP) = true)
    (q1P : K.lookup ccP1 = some ⟨celP, celdP, .cell (some (.ref acPart)), cslP⟩)
    (i1T : PySem.W.findIn K (.ref acText) "__init__" = some (some (.ref fT)))
    (l1T : K.lookup fT = some ⟨ocT1, odT1, .func (PySem.W.fnX "__init__" "BadText.__init__" (defArgs sT) (defBody sT) (defScope sT) [(("__class__" : Str), ccT1)] .none kVT1 dcT1 pmT1 anT1 (.ref coT1) ctT1), slT1⟩)
    (c1T : PySem.W.codeIn K (.ref coT1) "BadText.__init__" = true)
    (o1T : K.lookup coT1 = some ⟨cclT, cddT, .fields vsT, ccsT⟩)
    (v1T : vsT[2]? = some (.str fiT tfT))
    (e1T : ((P.main.file : Str) == fiT) = true)
    (q1T : K.lookup ccT1 = some ⟨celT, celdT, .cell (some (.ref acText)), cslT⟩)
    (i1C : PySem.W.findIn K (.ref acComm) "__init__" = some (some (.ref fC)))
    (l1C : K.lookup fC = some ⟨ocC1, odC1, .func (PySem.W.fnX "__init__" "BadCommand.__init__" (defArgs sC) (defBody sC) (defScope sC) [(("__class__" : Str), ccC1)] .none kVC1 dcC1 pmC1 anC1 (.ref coC1) ctC1), slC1⟩)
    (c1C : PySem.W.codeIn K (.ref coC1) "BadCommand.__init__" = true)
    (o1C : K.lookup coC1 = some ⟨cclC, cddC, .fields vsC, ccsC⟩)
    (v1C : vsC[2]? = some (.str fiC tfC))
    (e1C : ((P.main.file : Str) == fiC) = true)
    (q1C : K.lookup ccC1 = some ⟨celC, celdC, .cell (some (.ref acComm)), cslC⟩)
    (i1M : PySem.W.findIn K (.ref acMany) "__init__" = some (some (.ref fM)))
    (l1M : K.lookup fM = some ⟨ocM1, odM1, .func (PySem.W.fnX "__init__" "TooMany.__init__" (defArgs sM) (defBody sM) (defScope sM) [(("__class__" : Str), ccM1)] .none kVM1 dcM1 pmM1 anM1 (.ref coM1) ctM1), slM1⟩)
    (c1M : PySem.W.codeIn K (.ref coM1) "TooMany.__init__" = true)
    (o1M : K.lookup coM1 = some ⟨cclM, cddM, .fields vsM, ccsM⟩)
    (v1M : vsM[2]? = some (.str fiM tfM))
    (e1M : ((P.main.file : Str) == fiM) = true)
    (q1M : K.lookup ccM1 = some ⟨celM, celdM, .cell (some (.ref acMany)), cslM⟩)
    (opq : PySem.W.nsIn K cStatics "thirdparty.any" = some none)
    (top : (P.main.scope.names.lookup ("super" : Str)).isSome = false)
    (sup : PySem.W.nsIn K mainGlobals "super" = some none)
    (hck : ck K ⟨acFace, acMann, acMatc, acSpot, acPlac, acDriv, acNumb, acValu, acText, acComm, acNoth, acMany, acPart, acMErr, fP, fT, fC, fM⟩ = true) :
    ∃ fd : FuncData, (∀ (s : Shared) (v : Value), BindsTo s fd ⟨[v], []⟩ [("script", v)]) ∧ ∀ base : Heap, K.In base → base.Ns mainGlobals mg → FnG P w K mg base CX0 4 fa fd ["script"] (spLaw K) := by
  obtain ⟨h_xcFace, hck⟩ := ba hck
  obtain ⟨h_acFace, hck⟩ := ba hck
  obtain ⟨h_pcFace, hck⟩ := ba hck
  obtain ⟨h_xcMann, hck⟩ := ba hck
  obtain ⟨h_acMann, hck⟩ := ba hck
  obtain ⟨h_pcMann, hck⟩ := ba hck
  obtain ⟨h_xcMatc, hck⟩ := ba hck
  obtain ⟨h_acMatc, hck⟩ := ba hck
  obtain ⟨h_pcMatc, hck⟩ := ba hck
  obtain ⟨h_xcSpot, hck⟩ := ba hck
  obtain ⟨h_acSpot, hck⟩ := ba hck
  obtain ⟨h_pcSpot, hck⟩ := ba hck
  obtain ⟨h_xcPlac, hck⟩ := ba hck
  obtain ⟨h_acPlac, hck⟩ := ba hck
  obtain ⟨h_pcPlac, hck⟩ := ba hck
  obtain ⟨h_xcDriv, hck⟩ := ba hck
  obtain ⟨h_acDriv, hck⟩ := ba hck
  obtain ⟨h_pcDriv, hck⟩ := ba hck
  obtain ⟨h_xcNumb, hck⟩ := ba hck
  obtain ⟨h_acNumb, hck⟩ := ba hck
  obtain ⟨h_pcNumb, hck⟩ := ba hck
  obtain ⟨h_xcValu, hck⟩ := ba hck
  obtain ⟨h_acValu, hck⟩ := ba hck
  obtain ⟨h_pcValu, hck⟩ := ba hck
  obtain ⟨h_acText, hck⟩ := ba hck
  obtain ⟨h_acComm, hck⟩ := ba hck
  obtain ⟨h_acNoth, hck⟩ := ba hck
  obtain ⟨h_acMany, hck⟩ := ba hck
  obtain ⟨h_xcText, hck⟩ := ba hck
  obtain ⟨h_p1cText, hck⟩ := ba hck
  obtain ⟨h_p2cText, hck⟩ := ba hck
  obtain ⟨h_xcComm, hck⟩ := ba hck
  obtain ⟨h_p1cComm, hck⟩ := ba hck
  obtain ⟨h_xcMany, hck⟩ := ba hck
  obtain ⟨h_p1cMany, hck⟩ := ba hck
  obtain ⟨h_p2cMany, hck⟩ := ba hck
  obtain ⟨h_qcNoth, hck⟩ := ba hck
  obtain ⟨h_kcNoth, hck⟩ := ba hck
  obtain ⟨h_kit, hck⟩ := ba hck
  obtain ⟨h_kitX, hck⟩ := ba hck
  obtain ⟨h_tP, hck⟩ := ba hck
  obtain ⟨h_tT, hck⟩ := ba hck
  obtain ⟨h_tC, hck⟩ := ba hck
  obtain ⟨h_tM, hck⟩ := ba hck
  obtain ⟨h_sP, hck⟩ := ba hck
  obtain ⟨h_sT, hck⟩ := ba hck
  obtain ⟨h_sC, hck⟩ := ba hck
  have h_sM := hck
  have T : TxtE K mg ⟨acFace, acMann, acMatc, acSpot, acPlac, acDriv, acNumb, acValu, acText, acComm, acNoth, acMany, acPart, acMErr, fP, fT, fC, fM⟩ := {
    gcFace := PySem.W.mg_of X G ncFace
    gcMann := PySem.W.mg_of X G ncMann
    gcMatc := PySem.W.mg_of X G ncMatc
    gcSpot := PySem.W.mg_of X G ncSpot
    gcPlac := PySem.W.mg_of X G ncPlac
    gcDriv := PySem.W.mg_of X G ncDriv
    gcNumb := PySem.W.mg_of X G ncNumb
    gcValu := PySem.W.mg_of X G ncValu
    gcText := PySem.W.mg_of X G ncText
    gcComm := PySem.W.mg_of X G ncComm
    gcNoth := PySem.W.mg_of X G ncNoth
    gcMany := PySem.W.mg_of X G ncMany
    gcPart := PySem.W.mg_of X G ncPart
    gcMErr := PySem.W.mg_of X G ncMErr
    xcFace := xcB_ok h_xcFace
    acFace := atB_ok h_acFace
    pcFace := noB_ok h_pcFace
    xcMann := xcB_ok h_xcMann
    acMann := atB_ok h_acMann
    pcMann := noB_ok h_pcMann
    xcMatc := xcB_ok h_xcMatc
    acMatc := atB_ok h_acMatc
    pcMatc := noB_ok h_pcMatc
    xcSpot := xcB_ok h_xcSpot
    acSpot := atB_ok h_acSpot
    pcSpot := noB_ok h_pcSpot
    xcPlac := xcB_ok h_xcPlac
    acPlac := atB_ok h_acPlac
    pcPlac := noB_ok h_pcPlac
    xcDriv := xcB_ok h_xcDriv
    acDriv := atB_ok h_acDriv
    pcDriv := noB_ok h_pcDriv
    xcNumb := xcB_ok h_xcNumb
    acNumb := atB_ok h_acNumb
    pcNumb := noB_ok h_pcNumb
    xcValu := xcB_ok h_xcValu
    acValu := atB_ok h_acValu
    pcValu := noB_ok h_pcValu
    acText := atB_ok h_acText
    acComm := atB_ok h_acComm
    acNoth := atB_ok h_acNoth
    acMany := atB_ok h_acMany
    xcText := xcB_ok h_xcText
    p1cText := noB_ok h_p1cText
    p2cText := noB_ok h_p2cText
    xcComm := xcB_ok h_xcComm
    p1cComm := noB_ok h_p1cComm
    xcMany := xcB_ok h_xcMany
    p1cMany := noB_ok h_p1cMany
    p2cMany := noB_ok h_p2cMany
    qcNoth := h_qcNoth
    kcNoth := h_kcNoth
    kit := fun i j hi hj => by
      have q := kitB_ok h_kit (i := i) (j := j) hi (by rw [List.length_map]; exact hj)
      rw [getDmap] at q
      exact q
      exact hj
    kitP := fun i hi => kitB_ok h_kitX (i := i) (j := 0) hi (by show 0 < 3; decide)
    kitM := fun i hi => kitB_ok h_kitX (i := i) (j := 1) hi (by show 1 < 3; decide)
    kitV := fun i hi => kitB_ok h_kitX (i := i) (j := 2) hi (by show 2 < 3; decide)
    isi := PySem.W.mg_none_of X G zisinstance
    rep := PySem.W.mg_none_of X G zrepr
    enm := PySem.W.mg_none_of X G zenumerate
    rng := PySem.W.mg_none_of X G zrange
    vle := PySem.W.mg_none_of X G zValueError
    tP := of_decide_eq_true h_tP
    tT := of_decide_eq_true h_tT
    tC := of_decide_eq_true h_tC
    tM := of_decide_eq_true h_tM }
  have D : TxtD mg := ⟨PySem.W.mg_none_of X G zint, PySem.W.mg_none_of X G zlen, PySem.W.mg_none_of X G zabs⟩
  have FW := fun_mk (st := sWell) l_W c_W k_W
  have bW := FW.binds (ps := ["script"]) fun _ _ _ _ _ _ us hl => match us, hl with | [_], _ => rfl
  have FD := fun_mk (st := sDraw) l_D c_D k_D
  have bD := FD.binds (ps := ["well", "many"]) fun _ _ _ _ _ _ us hl => match us, hl with | [_, _], _ => rfl
  have FO := fun_mk (st := sOne) l_O c_O k_O
  have bO := FO.binds (ps := ["well", "some"]) fun _ _ _ _ _ _ us hl => match us, hl with | [_, _], _ => rfl
  have FK := fun_mk (st := sCls) l_K c_K k_K
  have bK := FK.binds (ps := ["error"]) fun _ _ _ _ _ _ us hl => match us, hl with | [_], _ => rfl
  have FL := fun_mk (st := sLaw) l_L c_L k_L
  have bL := FL.binds (ps := ["script"]) fun _ _ _ _ _ _ us hl => match us, hl with | [_], _ => rfl
  have SP : SupTxt P K mg fP _ (nf sP "PartError.__init__" ccP1 coP1) ccP1 acPart := ⟨rfl, ⟨ocP1, odP1, kVP1, dcP1, pmP1, anP1, ctP1, slP1, rfl, l1P⟩, c1P, ⟨cclP, cddP, vsP, ccsP, fiP, tfP, o1P, v1P, e1P⟩, ⟨celP, celdP, cslP, q1P⟩, Option.isSome_iff_exists.mp h_sP, opq, top, PySem.W.mg_none_of X G sup⟩
  have ST : SupTxt P K mg fT _ (nf sT "BadText.__init__" ccT1 coT1) ccT1 acText := ⟨rfl, ⟨ocT1, odT1, kVT1, dcT1, pmT1, anT1, ctT1, slT1, rfl, l1T⟩, c1T, ⟨cclT, cddT, vsT, ccsT, fiT, tfT, o1T, v1T, e1T⟩, ⟨celT, celdT, cslT, q1T⟩, Option.isSome_iff_exists.mp h_sT, opq, top, PySem.W.mg_none_of X G sup⟩
  have SC : SupTxt P K mg fC _ (nf sC "BadCommand.__init__" ccC1 coC1) ccC1 acComm := ⟨rfl, ⟨ocC1, odC1, kVC1, dcC1, pmC1, anC1, ctC1, slC1, rfl, l1C⟩, c1C, ⟨cclC, cddC, vsC, ccsC, fiC, tfC, o1C, v1C, e1C⟩, ⟨celC, celdC, cslC, q1C⟩, Option.isSome_iff_exists.mp h_sC, opq, top, PySem.W.mg_none_of X G sup⟩
  have SM : SupTxt P K mg fM _ (nf sM "TooMany.__init__" ccM1 coM1) ccM1 acMany := ⟨rfl, ⟨ocM1, odM1, kVM1, dcM1, pmM1, anM1, ctM1, slM1, rfl, l1M⟩, c1M, ⟨cclM, cddM, vsM, ccsM, fiM, tfM, o1M, v1M, e1M⟩, ⟨celM, celdM, cslM, q1M⟩, Option.isSome_iff_exists.mp h_sM, opq, top, PySem.W.mg_none_of X G sup⟩
  have e := hfa.symm.trans (PySem.W.mg_of X G n_L)
  cases e
  exact ⟨_, fun s v => .of_eq rfl, fun base _ _ => ok_law (c := ⟨acFace, acMann, acMatc, acSpot, acPlac, acDriv, acNumb, acValu, acText, acComm, acNoth, acMany, acPart, acMErr, fP, fT, fC, fM⟩) FL {
    T := T, GW := ok_well FW D, GO := ok_one FO D (PySem.W.mg_of X G n_D) FD bD, GK := ok_cls FK T, GP := ok_initP SP, GT := ok_initT ST, GC := ok_initC SC, GM := ok_initM SM,
    gW := PySem.W.mg_of X G n_W, gO := PySem.W.mg_of X G n_O, gK := PySem.W.mg_of X G n_K, kW := k_W, kO := k_O, kK := k_K, bW := bW, bO := bO, bK := bK,
    kbP := ⟨fun s us ws _ h1 h2 => match us, h1, ws, h2 with | [x0, x1], _, [], _ => .of_eq rfl, fun r _ => r⟩
    kbPk := ⟨fun s us ws _ h1 h2 => match us, h1, ws, h2 with | [x0], _, [y0], _ => .of_eq rfl, fun r rz => r.append rz⟩
    kbC := ⟨fun s us ws _ h1 h2 => match us, h1, ws, h2 with | [x0, x1], _, [], _ => .of_eq rfl, fun r _ => r⟩
    kbCk := ⟨fun s us ws _ h1 h2 => match us, h1, ws, h2 with | [x0], _, [y0], _ => .of_eq rfl, fun r rz => r.append rz⟩
    kbT := ⟨fun s us ws _ h1 h2 => match us, h1, ws, h2 with | [x0, x1, x2], _, [], _ => .of_eq rfl, fun r _ => r⟩
    kbTk := ⟨fun s us ws _ h1 h2 => match us, h1, ws, h2 with | [x0], _, [y0, y1], _ => .of_eq rfl, fun r rz => r.append rz.reverse⟩
    kbM := ⟨fun s us ws _ h1 h2 => match us, h1, ws, h2 with | [x0, x1, x2], _, [], _ => .of_eq rfl, fun r _ => r⟩
    kbMk := ⟨fun s us ws _ h1 h2 => match us, h1, ws, h2 with | [x0], _, [y0, y1], _ => .of_eq rfl, fun r rz => r.append rz.reverse⟩ }⟩
end K00

open PySem PySem.W PyProof.Rows in
set_option maxRecDepth 100000 in
set_option maxHeartbeats 0 in
theorem PySem.Challenge.cw_followface_k00_errors_and_their_fields_holds : PySem.Challenge.rw_followface_k00_errors_and_their_fields.Holds := by
  w_on; o_law; k_head; (case hw => w_witness2)
  k_fill
  refine Gd.walk_ofG (l := PySem.Challenge.rw_followface_k00_errors_and_their_fields) (n := 63) (k := 4) (sp := K00.spLaw) (x := "script") rfl (by decide) rfl ⟨⟨rfl, by decide, by decide⟩, rfl⟩ (fun w h Y => PySem.W.kIn_of Y) ?F (fun K H a ns hl _ hS => ⟨a, ns, rfl, hS, hl, fun _ => rfl⟩)
  case F =>
    intro w mg fa h KX G hmg
    refine' K00.all_mk KX G hmg ?ncFace ?ncMann ?ncMatc ?ncSpot ?ncPlac ?ncDriv ?ncNumb ?ncValu ?ncText ?ncComm ?ncNoth ?ncMany ?ncPart ?ncMErr ?zint ?zlen ?zabs ?zisinstance ?zrepr ?zenumerate ?zrange ?zValueError ?n_W ?l_W ?c_W ?k_W ?n_D ?l_D ?c_D ?k_D ?n_O ?l_O ?c_O ?k_O ?n_K ?l_K ?c_K ?k_K ?n_L ?l_L ?c_L ?k_L ?i1P ?l1P ?c1P ?o1P ?v1P ?e1P ?q1P ?i1T ?l1T ?c1T ?o1T ?v1T ?e1T ?q1T ?i1C ?l1C ?c1C ?o1C ?v1C ?e1C ?q1C ?i1M ?l1M ?c1M ?o1M ?v1M ?e1M ?q1M ?opq ?top ?sup ?hck
    (case ncFace => k_is)
    (case ncMann => k_is)
    (case ncMatc => k_is)
    (case ncSpot => k_is)
    (case ncPlac => k_is)
    (case ncDriv => k_is)
    (case ncNumb => k_is)
    (case ncValu => k_is)
    (case ncText => k_is)
    (case ncComm => k_is)
    (case ncNoth => k_is)
    (case ncMany => k_is)
    (case ncPart => k_is)
    (case ncMErr => k_is)
    (case zint => k_is)
    (case zlen => k_is)
    (case zabs => k_is)
    (case zisinstance => k_is)
    (case zrepr => k_is)
    (case zenumerate => k_is)
    (case zrange => k_is)
    (case zValueError => k_is)
    (case n_W => k_is)
    (case l_W => k_is)
    (case c_W => k_is)
    (case k_W => k_is)
    (case n_D => k_is)
    (case l_D => k_is)
    (case c_D => k_is)
    (case k_D => k_is)
    (case n_O => k_is)
    (case l_O => k_is)
    (case c_O => k_is)
    (case k_O => k_is)
    (case n_K => k_is)
    (case l_K => k_is)
    (case c_K => k_is)
    (case k_K => k_is)
    (case n_L => k_is)
    (case l_L => k_is)
    (case c_L => k_is)
    (case k_L => k_is)
    (case i1P => k_is)
    (case l1P => k_is)
    (case c1P => k_is)
    (case o1P => k_is)
    (case v1P => exact rfl)
    (case e1P => first | exact rfl | decide +kernel | kernel_rfl)
    (case q1P => k_is)
    (case i1T => k_is)
    (case l1T => k_is)
    (case c1T => k_is)
    (case o1T => k_is)
    (case v1T => exact rfl)
    (case e1T => first | exact rfl | decide +kernel | kernel_rfl)
    (case q1T => k_is)
    (case i1C => k_is)
    (case l1C => k_is)
    (case c1C => k_is)
    (case o1C => k_is)
    (case v1C => exact rfl)
    (case e1C => first | exact rfl | decide +kernel | kernel_rfl)
    (case q1C => k_is)
    (case i1M => k_is)
    (case l1M => k_is)
    (case c1M => k_is)
    (case o1M => k_is)
    (case v1M => exact rfl)
    (case e1M => first | exact rfl | decide +kernel | kernel_rfl)
    (case q1M => k_is)
    (case opq => k_is)
    (case top => first | exact rfl | decide +kernel | kernel_rfl)
    (case sup => k_is)
    (case hck => kernel_rfl)
