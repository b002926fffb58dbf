import PyProof.Rows.All
import HandS.ForMost
import HandS.Codes
import HandS.Defaults
import HandS.ClsMeth
import KE.KSuper
import HandS.GenList
import KE.GoesZip
import HandS.DictComp
import HandS.MakeKwOnly
import HandS.Property
import HandS.IsInst
import HandS.Style
import HandS.Wide
import PySem.Challenge.RW_rounddown_k63_whole_levels_add_up
import PyProof.NeKinds
import HandS.Walk
import HandS.WordsDict
import HandS.HeadHook1
import HandS.HeadHook2
import HandS.HeadEnd
import HandS.Head0
import HandS.Head1
import HandS.Head2
import KE.KStateDown
section T_RdSup
set_option Elab.async false
set_option linter.all false
set_option maxRecDepth 100000
set_option maxHeartbeats 4000000
/-! super().m(..) as a def's first statement: a def that closes over __class__, its body at its own code (wpAt). -/
namespace Rd
open PySem PySem.Spec PyProof.Rows L2

/-! ### a body at its own code -/
structure PSsAt (X : Cx) (c : Code) (st : List Stmt) (t : TS) : Prop where
  run : ∀ (pins : List (Addr × Obj)) (s : Shared) (σ : L2.St) (H : Hp) (D : Ends), Inv X pins σ H s → t D σ H → _root_.PySem.wpAt (model X.prog X.w) X.A c (execs st X.env) (SP X pins D) X.xe s
structure PSAt (X : Cx) (c : Code) (st : Stmt) (t : TS) : Prop where
  run : ∀ (pins : List (Addr × Obj)) (s : Shared) (σ : L2.St) (H : Hp) (D : Ends), Inv X pins σ H s → t D σ H → _root_.PySem.wpAt (model X.prog X.w) X.A c (exec st X.env) (SP X pins D) X.xe s
structure PEAt (X : Cx) (c : Code) (e : Expr) (t : TE) : Prop where
  run : ∀ (pins : List (Addr × Obj)) (s : Shared) (σ : L2.St) (H : Hp) (Q : VK), Inv X pins σ H s → t σ H Q → _root_.PySem.wpAt (model X.prog X.w) X.A c (eval e X.env) (EP X pins σ Q) X.xe s
section
variable {X : Cx} {c : Code} {st : Stmt} {rest : List Stmt} {t u : TS} {e : Expr} {te : TE} {pos : Pos}
theorem pssAt_of (h : PSs X rest t) : PSsAt X c rest t := ⟨fun pins s σ H D I q => _root_.PySem.wpAt_of_wpAny (h.run pins s σ H D I q)⟩
theorem pssAt_cons (h1 : PSAt X c st t) (h2 : PSsAt X c rest u) : PSsAt X c (st :: rest) (tSeq t u) := by
  refine ⟨fun pins s σ H D I h => ?_⟩
  refine ks_wpAt_execs_cons (_root_.PySem.wpAt_mono (h1.run pins s σ H { D with nx := u D } I h) (fun f s1 q => ?_) fun _ _ x => x)
  cases f with
  | next =>
    obtain ⟨σ', H', I', q⟩ := q
    exact h2.run pins s1 σ' H' D I' q
  | ret v => exact q
  | brk => exact q
  | cont => exact q
theorem pssAt_one (h1 : PSAt X c st t) : PSsAt X c [st] t := by
  refine ⟨fun pins s σ H D I h => ?_⟩
  refine ks_wpAt_execs_cons (_root_.PySem.wpAt_mono (h1.run pins s σ H D I h) (fun f s1 q => ?_) fun _ _ x => x)
  cases f with
  | next => exact _root_.PySem.wpAt_of_wpAny (wpAny_execs_nil q)
  | ret v => exact q
  | brk => exact q
  | cont => exact q
theorem psAt_expr (he : PEAt X c e te) (hs : swapsWith e none pos.line X.env = pure false := by rfl) : PSAt X c (.Expr e pos) (tDrop te) := by
  refine ⟨fun pins s σ H D I h => ?_⟩
  exact ks_wpAt_Expr_any (_root_.PySem.wpAt_mono (he.run pins s σ H _ I h) (fun v s1 ⟨x, H1, I1, r1, q1⟩ => ⟨σ, H1, I1, q1⟩) fun _ _ x => x) I.quiet hs
theorem psAt_ret (he : PEAt X c e te) : PSAt X c (.Return (some e) pos) (tRet te) := by
  refine ⟨fun pins s σ H D I h => ?_⟩
  exact ks_wpAt_Return_some (_root_.PySem.wpAt_mono (he.run pins s σ H _ I h) (fun v s1 ⟨x, H1, I1, r1, q1⟩ => ⟨x, σ, H1, I1, r1, q1⟩) fun _ _ x => x)
end

/-! ### a def that closes over __class__ -/
structure SupScope (N ps : List Str) (sc : Scope) : Prop where
  kind : sc.kind = .function
  co : sc.isCoroutine = false
  gen : sc.isGenerator = false
  nd : N.Nodup
  pre : N.take ps.length = ps
  par : ∀ x ∈ ps, sc.names.lookup x = some .local
  nocell : ∀ y ∈ sc.names, y.2 ≠ .cell
  free : ∀ y ∈ sc.names, y.2 = .free → y.1 = ("__class__" : Str)
  cls : sc.names.lookup ("__class__" : Str) = some .free
  sup : sc.names.lookup ("super" : Str) = some .globalImplicit

abbrev clO (cc : Addr) : List (Str × Addr) := [(("__class__" : Str), cc)]
def cxSup (CX : CXT) (P : Program) (w : World) (K : PySem.W.Frag) (mg : Str → Option Value) (base : Heap) (N : List Str) (qual : Str) (scope : Scope) (f : Addr) (cd : Value) (cc : Addr) (A : Around) (outer : List Env) (s : Shared) (H : Hp) (E : XK) : Cx where
  prog := P
  w := w
  K := K
  mg := mg
  base := base
  A := A.deeper (PySem.W.envX qual scope s.heap.objs.size f cd (clO cc))
  N := N
  s_0 := s
  H_0 := H
  env := PySem.W.envX qual scope s.heap.objs.size f cd (clO cc)
  outer := outer
  stack := PySem.W.envX qual scope s.heap.objs.size f cd (clO cc) :: outer
  ex := []
  calm := true
  fn := fun _ => false
  pn := []
  xe := fun e s' => wpAny (model P w) (A.deeper (PySem.W.envX qual scope s.heap.objs.size f cd (clO cc))) (leaving (PySem.W.envX qual scope s.heap.objs.size f cd (clO cc)) e) (fun _ s'' => CX outer H s E e s'') (fun e' s'' => CX outer H s E e' s'') s'

theorem lookup_mem_nd : ∀ {l : List (Str × Value)} {x : Str} {u : Value}, (l.map (·.1)).Nodup → (x, u) ∈ l → l.lookup x = some u
  | (y, v) :: l, x, u, nd, hm => by
    rw [List.lookup_cons]
    rcases List.mem_cons.mp hm with e | hm2
    · cases e; simp
    · have hne : x ≠ y := fun e => by
        subst e
        exact (List.nodup_cons.mp nd).1 (List.mem_map.mpr ⟨(x, u), hm2, rfl⟩)
      have hb : (x == y) = false := by simpa using hne
      rw [hb]
      exact lookup_mem_nd (List.nodup_cons.mp nd).2 hm2
theorem zip_nd : ∀ {ps : List Str} {us : List Value}, ps.Nodup → ((ps.zip us).map (·.1)).Nodup
  | [], _, _ => by simp
  | _ :: _, [], _ => by simp
  | p :: ps, u :: us, nd => by
    show (p :: (ps.zip us).map (·.1)).Nodup
    refine List.nodup_cons.mpr ⟨fun hm => ?_, zip_nd (List.nodup_cons.mp nd).2⟩
    obtain ⟨⟨a, b⟩, hq, e⟩ := List.mem_map.mp hm
    have e : a = p := e
    subst e
    exact (List.nodup_cons.mp nd).1 (List.of_mem_zip hq).1
theorem zip_rev_lookup {ps : List Str} {us : List Value} {i : Nat} {y : Str} {u : Value} (nd : ps.Nodup) (hp : ps[i]? = some y) (hu : us[i]? = some u) : (ps.zip us).reverse.lookup y = some u := by
  refine lookup_mem_nd ?_ ?_
  · rw [List.map_reverse]
    exact List.pairwise_reverse.mpr ((zip_nd nd).imp fun h => h.symm)
  · refine List.mem_reverse.mpr ?_
    refine List.mem_of_getElem? (i := i) ?_
    rw [List.getElem?_zip_eq_some]
    exact ⟨hp, hu⟩

theorem inv_sup {CX : CXT} {P : Program} {w : World} {K : PySem.W.Frag} {mg : Str → Option Value} {base : Heap} {N ps : List Str} {qual : Str} {scope : Scope} {f cc : Addr} {cd : Value} {A : Around} {outer : List Env} {s : Shared} {H : Hp} {E : XK} {us : List Value} {vs : List V} {h1 : Heap} {tk : Nat}
    {ccl : Value} {cld : Option Addr} {csl : Array (Option Value)} {D : Addr}
    (S : SupScope N ps scope) (hcell : K.lookup cc = some ⟨ccl, cld, .cell (some (.ref D)), csl⟩) (hd : A.handled = none) (e0 : Env0 P w K mg base A outer s H) (hl : vs.length = ps.length) (r : Vals vs us)
    (hns : h1.Ns s.heap.objs.size (fun x => (ps.zip us).reverse.lookup x)) (hk : ∀ b o, s.heap.get? b = some o → h1.get? b = some o) :
    Inv (cxSup CX P w K mg base N qual scope f cd cc A outer s H E) [] (L2.start N vs) H { s with heap := h1, toks := tk } := by
  have hpl : ps.length ≤ N.length := by have := congrArg List.length S.pre; rw [List.length_take] at this; omega
  have noA : ∀ b : Addr, b ∉ (cxSup CX P w K mg base N qual scope f cd cc A outer s H E).ex := fun b z => absurd (show b ∈ ([] : List Addr) from z) (by simp)
  have cb : base.get? cc = some ⟨ccl, cld, .cell (some (.ref D)), csl⟩ := e0.mod.kin _ _ hcell
  have one : ∀ {y : Str} {c : Addr}, (clO cc).lookup y = some c → y = ("__class__" : Str) ∧ c = cc := fun {y c} h => by
    have h2 : (match y == ("__class__" : Str) with | true => some cc | false => none) = some c := h
    cases e : (y == ("__class__" : Str)) with
    | true => rw [e] at h2; cases h2; exact ⟨by simpa using e, rfl⟩
    | false => rw [e] at h2; cases h2
  refine ⟨⟨e0.mod, S.kind, rfl, rfl, Nat.le_refl _, fun y z c h1 h2 => ?_, fun y hy => ?_, fun y c z h => ?_, fun _ => hd, Around.frames_deeper e0.frames, .inr ⟨rfl, rfl⟩, fun b z => absurd z (noA b), e0.bs, e0.bsz, fun b _ _ => noA b, fun b z => absurd z (noA b), e0.funs, e0.frf⟩,
    rfl, e0.bare, Un.kept hk, ⟨_, hns, fun i y v h1 h2 h3 => ?_⟩, fun y c h => ?_, e0.hok.fresh (Nat.le_refl _), fun y c h => ?_, fun p hp => absurd (show p ∈ ([] : List (Addr × Obj)) from hp) (by simp), e0.hok.kept hk, ?_⟩
  · rw [(one h1).1, (one h2).1]
  · have hy : scope.names.lookup y = some .cell ∨ scope.names.lookup y = some .free := hy
    rcases hy with hy | hy
    · exact absurd rfl (S.nocell _ (PySem.mem_of_lookup hy))
    · have e := S.free _ (PySem.mem_of_lookup hy) rfl
      have e : y = ("__class__" : Str) := e
      subst e
      exact ⟨cc, rfl⟩
  · exact absurd (show false = true from z) Bool.false_ne_true
  · have hi : i < vs.length := by
      unfold L2.start at h2
      by_cases hi : i < vs.length
      · exact hi
      · rw [List.getElem?_append_right (by simpa using hi)] at h2
        rw [List.getElem?_replicate] at h2
        split at h2 <;> cases h2
    have ha : vs[i]? = some v := by
      unfold L2.start at h2
      rw [List.getElem?_append_left (by simpa using hi), List.getElem?_map] at h2
      cases e : vs[i]? with
      | none => rw [e] at h2; cases h2
      | some a => rw [e] at h2; cases h2; rfl
    obtain ⟨u, hu, rv⟩ := r.get ha
    have hp : ps[i]? = some y := by
      rw [← S.pre, List.getElem?_take_of_lt (by omega)]; exact h1
    have ndP : ps.Nodup := by rw [← S.pre]; exact S.nd.sublist (List.take_sublist _ _)
    exact ⟨u, rv, .inl ⟨S.par y (List.mem_of_getElem? hp), zip_rev_lookup ndP hp hu⟩⟩
  · obtain ⟨_, rfl⟩ := one h
    exact ⟨_, _, hk _ _ (e0.bs _ _ cb).1, rfl⟩
  · obtain ⟨_, rfl⟩ := one h
    exact (e0.bs _ _ cb).2
  · unfold L2.start
    show _ = N.length
    rw [List.length_append, List.length_map, List.length_replicate]
    omega

theorem fn_sup {CX : CXT} {P : Program} {w : World} {K : PySem.W.Frag} {mg : Str → Option Value} {base : Heap} {k : Nat} {f cc D : Addr} {name qual : Str} {params : Arguments} {body : List Stmt} {scope : Scope} {dV kV doc pm cdv ct oc : Value} {an od : Option Addr}
    {osl : Array (Option Value)} {ccl : Value} {cld : Option Addr} {csl : Array (Option Value)} {N ps : List Str} {sp : Sp}
    (lk : K.lookup f = some ⟨oc, od, .func (PySem.W.fnX name qual params body scope (clO cc) dV kV doc pm an cdv ct), osl⟩) (hcd : PySem.W.codeIn K cdv qual = true) (hcell : K.lookup cc = some ⟨ccl, cld, .cell (some (.ref D)), csl⟩) (S : SupScope N ps scope)
    (len : ∀ vs H Q E, sp vs H Q E → vs.length = ps.length)
    (hbody : ∀ (A : Around) (outer : List Env) (s : Shared) (H : Hp) (vs : List V) (Q : VK) (E : XK), Room k (A.deeper (PySem.W.envX qual scope s.heap.objs.size f cdv (clO cc))) → sp vs H Q E →
      ∃ t, PSsAt (cxSup CX P w K mg base N qual scope f cdv cc A outer s H E) (.func body (PySem.W.envX qual scope s.heap.objs.size f cdv (clO cc))) body t ∧ t { nx := fun _ H' => Q .non H', rt := Q } (L2.start N vs) H) :
    FnOk P w K mg base CX (k + 1) f (PySem.W.fnX name qual params body scope (clO cc) dV kV doc pm an cdv ct) ps sp := by
  refine ⟨len, fun A outer s H args us vs Q E hr e0 hb r hsp => ?_⟩
  have hl := len _ _ _ _ hsp
  have KX : K.In s.heap := e0.mod.kin.keeps fun b o e => (e0.bs b o e).1
  have lim : s.heap.NoLimit := e0.mod.nolimit.keeps fun b o e => (e0.bs b o e).1
  have hloc : ∀ y ∈ ps.zip us, scope.names.lookup y.1 = some .local := fun ⟨n, v⟩ hy => S.par n (List.of_mem_zip hy).1
  refine ks_codeAny_call_defAt (fd := PySem.W.fnX name qual params body scope (clO cc) dV kV doc pm an cdv ct) (body := body) (binds := ps.zip us) hr.depth (KX _ _ lk) rfl lim (PySem.W.codeRec_of KX hcd) rfl hb S.nocell hloc (fun h₁ hns hk₁ => ?_) S.co S.gen S.kind
  obtain ⟨t, ht, hq⟩ := hbody A outer s H vs Q E (hr.deeper _) hsp
  have I : Inv (cxSup CX P w K mg base N qual scope f cdv cc A outer s H E) [] (L2.start N vs) H { s with heap := h₁, toks := s.toks + (ps.zip us).length } := inv_sup S hcell hr.hd e0 hl r hns hk₁
  have fin : ∀ {σ' : L2.St} {H' : Hp} {v : V} {u : Value} {s' : Shared}, Inv (cxSup CX P w K mg base N qual scope f cdv cc A outer s H E) [] σ' H' s' → RelV v u → Q v H' → CE outer P w H s Q u s' :=
    fun {σ' H' v u s'} J rv q => ⟨v, H', J.os, J.bare, J.base, J.hok, rv, q⟩
  refine ks_wpAt_mono (ht.run [] _ (L2.start N vs) H _ I hq) (fun fl s' hs => ?_) fun e s' hs => hs
  cases fl with
  | ret u =>
    obtain ⟨v, σ', H', J, rv, q⟩ := hs
    exact fin J rv q
  | next =>
    obtain ⟨σ', H', J, q⟩ := hs
    exact fin (v := V.non) (u := Value.none) J rfl q
  | brk =>
    obtain ⟨_, _, _, q⟩ := hs
    exact False.elim q
  | cont =>
    obtain ⟨_, _, _, q⟩ := hs
    exact False.elim q

/-! ### super().m(..) -/
/-- what the text must have for super().m in a def of the class at D, at an instance of the class at C -/
structure SupM (K : PySem.W.Frag) (C D g : Addr) (m : Str) : Prop where
  sub : PySem.W.mroIn K C (.ref D) = some true
  dc : (PySem.W.clsIn K D).isSome = true
  at_ : PySem.W.ks_superIn K C D m = some (some (.ref g))
  ty : PySem.W.typeIn K (.ref g) = some (.type "function")
  fi : PySem.W.fnIn K g = true
  tp : PySem.W.nsIn K cStatics "thirdparty.any" = some none
/-- a def of the text that closes over __class__, at f; D: its class -/
structure FunS (P : Program) (K : PySem.W.Frag) (x qual : Str) (params : Arguments) (body : List Stmt) (scope : Scope) (kws : List (Str × V)) (D f cc : Addr) (cdv : Value) (fd : FuncData) : Prop where
  ex : ∃ (oc : Value) (od : Option Addr) (kV doc pm : Value) (an : Option Addr) (ct : Value) (osl : Array (Option Value)),
    fd = PySem.W.fnX x qual params body scope (clO cc) .none kV doc pm an cdv ct ∧ K.lookup f = some ⟨oc, od, .func fd, osl⟩ ∧ KwdV K kV kws
  code : PySem.W.codeIn K cdv qual = true
  cell : ∃ (ccl : Value) (cld : Option Addr) (csl : Array (Option Value)), K.lookup cc = some ⟨ccl, cld, .cell (some (.ref D)), csl⟩
  file : ∃ (cda : Addr) (ccl : Value) (cdd : Option Addr) (vs : Array Value) (ccs : Array (Option Value)) (fl : Str) (tf : Tok), cdv = .ref cda ∧ K.lookup cda = some ⟨ccl, cdd, .fields vs, ccs⟩ ∧ vs[2]? = some (.str fl tf) ∧ ((P.main.file : Str) == fl) = true
  kp : PySem.W.keepIn K (.ref f) = true
def tSup (C : Addr) (n j : Nat) (sp : Sp) (gV : List V → List V → List V) (E : XK) (t tk : TA) : TE := fun σ H Q => ∃ x dx fs, σ[0]? = some (some (.ref x)) ∧ H x = some (.ins C dx fs) ∧
  t σ H fun vs H1 => tk σ H1 fun zs H2 => vs.length = n ∧ zs.length = j ∧ sp (gV (.ref x :: vs) zs) H2 Q E
section
variable {X : Cx} {CX : CXT} {k n : Nat} {C D f g L cc : Addr} {fdf fd : FuncData} {x qual m : Str} {params : Arguments} {body : List Stmt} {scope : Scope} {cdv : Value} {kwsd : List (Str × V)} {ar : Arg} {ps ks : List Str} {sp : Sp} {E : XK} {p0 p1 apos pos : Pos} {e : Expr} {es : List Expr} {kws : List Keyword} {t tk : TA} {gg : List Value → List Value → List Value} {gV : List V → List V → List V}
theorem peAt_super {pl : Sem Bool} (henv : X.env = PySem.W.envX qual scope L f cdv (clO cc)) (FS : FunS X.prog X.K x qual params body scope kwsd D f cc cdv fdf) (hks : scope.names.lookup ("super" : Str) = some .globalImplicit) (hkc : scope.names.lookup ("__class__" : Str) = some .free)
    (hp : (params.posonlyargs ++ params.args).head? = some ar) (hself : scope.names.lookup ar.arg = some .local) (hN : X.N[0]? = some ar.arg) (c : Cls X.K C) (M : SupM X.K C D g m) (hat : (m == ("__class__" : Str)) = false)
    (htop : (X.prog.main.scope.names.lookup ("super" : Str)).isSome = false) (hsup : X.mg "super" = none)
    (F : FnOk X.prog X.w X.K X.mg X.base CX k g fd ps sp) (hr : Room k X.A) (hb : KBn X.K fd ps (n + 1) ks gg gV) (hx : Passes CX X E) (ha : PA X (e :: es) t) (hkw : PK X kws tk)
    (hall : (backToKw pos (keywordEach kws X.env)).all (·.1.isSome) = true := by rfl) (hkn : (backToKw pos (keywordEach kws X.env)).filterMap (·.1) = ks := by rfl)
    (he : starEach (e :: es) X.env = (false, eval e X.env) :: starEach es X.env := by rfl) (hpl : ((backTo pos (starEach (e :: es) X.env)).any (·.1) || (backToKw pos (keywordEach kws X.env)).any (·.1.isNone)) = false := by rfl)
    (het : eval (.Call (.Attribute (.Call (.Name "super" p0) [] [] p1) m apos) (e :: es) kws pos) X.env = (do
      let ov ← attributeBase (.Call (.Name "super" p0) [] [] p1) m X.env (eval (.Call (.Name "super" p0) [] [] p1) X.env)
      standAt apos.atName
      let (f, first) ← holding [ov] (getMethod ov m pl)
      callWith pos f first (backTo pos (starEach (e :: es) X.env)) (backToKw pos (keywordEach kws X.env))) := by rfl) :
    PEAt X (.func body X.env) (.Call (.Attribute (.Call (.Name "super" p0) [] [] p1) m apos) (e :: es) kws pos) (tSup C n ks.length sp gV E t tk) := by
  refine ⟨fun pins s σ H Q I h => ?_⟩
  obtain ⟨xa, dx, fs, h0, hxa, h⟩ := h
  obtain ⟨oc, od, kV, doc, pm, an, ct, osl, rfl, lk, _⟩ := FS.ex
  obtain ⟨ccl, cld, csl, hcell⟩ := FS.cell
  obtain ⟨cda, ccl2, cdd, vs2, ccs, fl, tf, rfl, hcode, hvs, hfile⟩ := FS.file
  have hk : X.env.scope.kind = .function := I.ok.kind
  have kS : X.env.kindOf ("super" : Str) = some .globalImplicit := by rw [henv]; exact hks
  have kC : X.env.kindOf ("__class__" : Str) = some .free := by rw [henv]; exact hkc
  have kA : X.env.kindOf ar.arg = some .local := by rw [henv]; exact hself
  have eF : X.env.func = some f := by rw [henv]
  have eC : X.env.code = .ref cda := by rw [henv]
  have eL : X.env.cells.lookup ("__class__" : Str) = some cc := by rw [henv]; rfl
  have visA : Vis X.env.scope ar.arg := .inl (by rw [henv]; exact hself)
  obtain ⟨mb, hb1, hb2⟩ := I.mod.blt
  obtain ⟨ml, hnl, hll⟩ := id I.loc
  obtain ⟨u, ru, lu⟩ := hll 0 ar.arg (.ref xa) hN h0 visA
  obtain rfl : u = Value.ref xa := ru
  have hma : ml ar.arg = some (.ref xa) := by
    rcases lu with ⟨_, e⟩ | ⟨q, _⟩
    · exact e
    · rw [kA] at q
      rcases q with q | q <;> cases q
  obtain ⟨cdD, hD⟩ := Option.isSome_iff_exists.mp M.dc
  have hD0 : ∃ oD, s.heap.get? D = some oD ∧ oD.data = .cls cdD := by
    unfold PySem.W.clsIn at hD
    split at hD
    · rename_i c d cd' sl ho
      cases hD
      exact ⟨_, I.kIn _ _ ho, rfl⟩
    · cases hD
  obtain ⟨oD, hD1, hD2⟩ := hD0
  obtain ⟨mA, O, _, _, _, _⟩ := ins_get I.hok hxa
  obtain ⟨odx, J, _⟩ := O.look
  have glob := I.mod.glob.keeps I.bk
  have blt := hb1.keeps I.bk
  rw [het]
  refine _root_.PySem.wpAt_bind (_root_.PySem.wpAt_mono (Q := fun ov s₁ => wpAny (model X.prog X.w) X.A (getMethod ov m pl) (fun fx s₂ => wpAny (model X.prog X.w) X.A (callWith pos fx.1 fx.2 (backTo pos (starEach (e :: es) X.env)) (backToKw pos (keywordEach kws X.env))) (EP X pins σ Q) X.xe s₂) X.xe s₁) ?_
    (fun ov s₁ h₁ => _root_.PySem.wpAt_of_wpAny (wpAny_bind (wpAny_standAt (wpAny_bind (wpAny_holding (wpAny_mono h₁ (fun fx s₂ h₂ => h₂) fun _ _ x => x)))))) fun _ _ x => x)
  have X' : X.K.In s.heap := I.kIn
  have hbt : ∀ b o, s.heap.get? b = some o → s.heap.get? b = some o := fun _ _ z => z
  obtain ⟨hh, gs, d, tk0, os⟩ := s
  refine ks_wpAt_super_base kS kC hat eF (X' _ _ lk) rfl hp eC (X' _ _ hcode) rfl hvs hfile htop ?_
  refine PySem.W.ks_loadName_global hk kS (Calls.loadGlobal_builtin (by rw [I.ok.glob]; exact glob) hsup (by rw [I.ok.blt]; exact blt) ((hb2 _ (by decide +kernel)).trans (by decide +kernel)) ⟨rfl, ?_⟩)
  refine wpAny_loadName_free hk kC eL ⟨_, X' _ _ hcell, rfl⟩ ?_
  refine wpAny_loadName_local hk kA hnl hma ?_
  refine ks_wpAny_isType_cls hD1 hD2 ⟨rfl, ?_⟩
  refine ks_wpAny_call_super hD1 hD2 J.at_ J.cls (fun c e => ?_) (PySem.W.looks_mroIn X' M.sub) (fun h' e1 k1 => ?_)
  · have := J.no
    unfold PySem.W.notCls at this
    rw [e] at this
    exact Bool.noConfusion this
  have I1 : Inv X ((hh.objs.size, PySem.W.ks_superObj D xa C) :: pins) σ H { heap := h', gens := gs, drawn := d, toks := tk0, os := os } :=
    ClX.pin_new (t' := tk0) I k1 (Nat.le_refl _) e1 (fun v z => nomatch z)
  have kin1 := I1.kIn
  have hof : ∃ of, h'.get? g = some of ∧ of.cls = .type "function" := by
    have ht' : (X.K.lookup g).map (·.cls) = some (.type "function") := M.ty
    cases z : X.K.lookup g with
    | none => rw [z] at ht'; cases ht'
    | some of => rw [z] at ht'; exact ⟨of, kin1 _ _ z, Option.some.inj ht'⟩
  obtain ⟨of, hof1, hof2⟩ := hof
  cases hcC : PySem.W.clsIn X.K C with
  | none =>
    have hm := M.at_
    unfold PySem.W.ks_superIn at hm
    rw [hcC] at hm
    cases hm
  | some cd =>
    have hm := M.at_
    unfold PySem.W.ks_superIn at hm
    rw [hcC] at hm
    have hxC : xa ≠ C := PySem.W.ks_ne X' J hcC
    refine ks_wpAny_getMethod_super e1 (PySem.W.looks_opaque kin1 M.tp) (l₀ := cd.mro) (fun A Q E s k q => wpAny_bind ((PySem.W.looks_clsIn kin1 hcC) A _ E s k (wpAny_pure q))) rfl kin1 hm hof1 hof2 hxC hat ?_
    have I2 : Inv X ((h'.objs.size, PySem.W.methodObj (.ref g) (.ref xa)) :: (hh.objs.size, PySem.W.ks_superObj D xa C) :: pins) σ H { heap := h'.push { cls := .type "method", data := .fields #[.ref g, .ref xa] }, gens := gs, drawn := d, toks := tk0 + 1, os := os } :=
      ClX.pin_new (t' := tk0 + 1) I1 (fun _ _ z => Heap.get?_push_of_some _ z) (Nat.le_refl _) (Heap.get?_push_size _ rfl) (fun v z => nomatch z)
    refine PySem.W.callWith_of (P := PySem.W.MethP X.K h'.objs.size g (.ref xa)) hpl (PySem.W.keeps_M M.fi) (PyProof.Rows.evalArgs_kw2 hall (thn (ha.run pos _ _ σ H _ I2 h) fun us s1 ⟨vs, H1, I3, r, q⟩ => thn (hkw.run pos _ s1 σ H1 _ I3 q) fun ws s2 ⟨zs, H2, I4, rz, l1, l2, q2⟩ => ?_) he)
    refine ⟨⟨ClX.pin_at I4, I4.kIn⟩, ?_⟩
    rw [hkn]
    have r2 := hb.rel (Paired.cons (show RelV (.ref xa) (.ref xa) from rfl) r) rz
    have n1 : (Value.ref xa :: us).length = n + 1 := by rw [List.length_cons, ← r.length, l1]
    have z : wpAny (model X.prog X.w) X.A (call (.ref h'.objs.size) us (ks.zip ws)) (EP X ((h'.objs.size, PySem.W.methodObj (.ref g) (.ref xa)) :: (hh.objs.size, PySem.W.ks_superObj D xa C) :: pins) σ Q) X.xe s2 := by
      refine wpAny_call (PySem.W.method_call (ClX.pin_at I4) (codeAny_mono (F.run X.A X.stack s2 H2 ⟨.ref xa :: us, ks.zip ws⟩ (gg (.ref xa :: us) ws) (gV (.ref xa :: vs) zs) Q E hr I4.env0 (hb.to s2 _ ws I4.kIn n1 (rz.length.symm.trans l2)) r2 q2) fun r s' hq => ?_))
      cases r with
      | error er => exact hx _ σ H2 s2 er s' I4 hq
      | ok fl =>
        cases fl with
        | ret u => exact I4.after hq
        | next => exact False.elim hq
        | brk => exact False.elim hq
        | cont => exact False.elim hq
    exact thn z fun _ _ y => ClX.unpinE (ClX.unpinE y)
end
end Rd
end T_RdSup
section T_RdZip
set_option Elab.async false
set_option linter.all false
set_option maxRecDepth 100000
set_option maxHeartbeats 4000000
/-! zip(range(n), g) at the machine's level, g a generator that is woken step by step. -/
namespace Rd
open PySem PySem.Spec PyProof.Rows L2 GenW

section
variable {prog : Program} {w : World} {A : Around} {E : Value → Shared → Prop} {s : Shared}
theorem nextOf_range_item {it : Addr} {x left step : Int} {Q : Value → Shared → Prop} (hit : IsRangeIter s.heap it x left step) (hleft : 0 < left)
    (hQ : ∀ h', IsRangeIter h' it (x + step) (left - 1) step → Heap.SameBut it s.heap h' → Q (.int x s.toks) { s with heap := h', toks := s.toks + 1 }) :
    wpAny (model prog w) A (Builtin.SmallTypes.nextOf (.ref it)) Q E s := by
  have hT : s.TypeIs (.ref it) "range_iterator" := ⟨_, hit, rfl⟩
  unfold Builtin.SmallTypes.nextOf
  refine wpAny_bind (wpAny_callSpecial?_slot (name := Str.ofString "__next__") hT F.slot_range_iterator_next
    (call_meets F.slot_range_iterator_next hT F.entry_range_iterator_next (F.args_range_iterator_next_1 _) (AutoRange.range_iterator___next___range_iterator_1 it x left step (by omega)) ⟨hit, ?_⟩))
  exact wpAny_pure (hQ _ (Heap.get?_update_self _ (Heap.get?_update_self _ hit rfl) rfl) ((Heap.SameBut.update ..).trans (Heap.SameBut.update ..)))
theorem nextOf_range_end {it : Addr} {x left step : Int} {Q : Value → Shared → Prop} (hh : A.handled = none) (hit : IsRangeIter s.heap it x left step) (hleft : left ≤ 0)
    (hE : ∀ h' e, Heap.ExtBut it s.heap h' → (∃ o, h'.get? e = some o ∧ o.cls = .type "StopIteration") → E (.ref e) { s with heap := h' }) : wpAny (model prog w) A (Builtin.SmallTypes.nextOf (.ref it)) Q E s := by
  have hT : s.TypeIs (.ref it) "range_iterator" := ⟨_, hit, rfl⟩
  unfold Builtin.SmallTypes.nextOf
  refine wpAny_bind (wpAny_callSpecial?_slot (name := Str.ofString "__next__") hT F.slot_range_iterator_next
    (wpAny_call_entry F.slot_range_iterator_next hT F.entry_range_iterator_next ?_ (F.args_range_iterator_next_1 _)))
  show wpAny _ _ (field (.ref it) 0 >>= _) _ _ s
  refine wpAny_bind (wpAny_field hit rfl (x := rawInt x) rfl ?_)
  show wpAny _ _ (field (.ref it) 1 >>= _) _ _ s
  refine wpAny_bind (wpAny_field hit rfl (x := rawInt left) rfl ?_)
  show wpAny _ _ (field (.ref it) 2 >>= _) _ _ s
  refine wpAny_bind (wpAny_field hit rfl (x := rawInt step) rfl ?_)
  show wpAny _ _ (if left ≤ 0 then _ else _) _ _ s
  rw [if_pos hleft]
  refine wpAny_bind (wpAny_rule ?_)
  refine wpAny_bind ?_
  show wpAny _ _ (newExc (.type "StopIteration") [] >>= _) _ _ _
  refine wpAny_bind ?_
  simp only [newExc, newTuple]
  refine wpAny_bind (wpAny_newObj_type ?_ (by size_fits))
  refine wpAny_bind (m := firstArgMember _ _) (wpAny_of_eq (a := Value.none) (by first | rfl | (simp only [firstArgMember]; rfl)) ?_)
  refine wpAny_newObj_type ?_ (by size_fits)
  simp only [raiseNew]
  refine wpAny_bind (wpAny_handled ?_)
  first | rw [show A.in1.handled = none from hh] | rw [hh]
  refine wpAny_bind (wpAny_pure (wpAny_throw ?_))
  exact hE _ _ (((Heap.ExtBut.refl it s.heap).push _).push _) ⟨_, Heap.get?_push_size _ rfl, rfl⟩

/-- a generator that never ends is woken -/
theorem nextOf_gen {a : Addr} {g n : Nat} {gs : GenState} {Y : Protocol} {Q : Value → Shared → Prop}
    (hl : s.heap.NoLimit) (hroom : A.depth < recursionLimit) (hg : s.heap.IsGen a g) (hgs : s.gens[g]? = some gs)
    (hgo : gs.Goes (model prog w) A.in1 (fun _ _ _ _ => False) Y n (.send .none) (s.setGen g .running))
    (hY : ∀ v s₁ gs', gs'.bare = true → Y (n - 1) (s.setGen g .running) v s₁ (fun r' s'' => match n with
        | 0 => False
        | m + 1 => gs'.Goes (model prog w) A.in1 (fun _ _ _ _ => False) Y m r' s'') → Q v (s₁.setGen g gs')) :
    wpAny (model prog w) A (Builtin.SmallTypes.nextOf (.ref a)) Q E s := by
  unfold Builtin.SmallTypes.nextOf
  refine wpAny_bind (wpAny_callSpecial?_slot (name := Str.ofString "__next__") hg.typeIs slot_gen_next
    (wpAny_call_entry slot_gen_next hg.typeIs entry_gen_next ?_ (args_gen_next _)))
  show wpAny _ A.in1 (Builtin.Generator.genWake (.ref a) (.send .none)) _ _ s
  unfold Builtin.Generator.genWake
  refine wpAny_bind (wpAny_holding (wpAny_genNumber hg (wpAny_bind (wpAny_genState hgs ?_))))
  cases gs with
  | running => exact hgo.elim
  | finished => exact hgo.elim
  | _ =>
    refine wpAny_bind (wpAny_roomToWake hl hroom ?_)
    show wpAny _ A.in1 (.resume g (.send .none) [] _) _ _ s
    refine wpAny_resumeQ hgs hgo (fun x s₁ hx => hx.elim) (fun v s₁ gs' hb hv => ?_)
    exact wpAny_pure ⟨v, rfl, wpAny_pure (hY v s₁ gs' hb hv)⟩
end

/-! ### the zip is made -/
abbrev rzH1 (h : Heap) (n : Int) : Heap := h.push { cls := .type "range_iterator", data := .fields #[rawInt 0, rawInt n, rawInt 1] }
abbrev rzH2 (h : Heap) (n : Int) (G : Addr) : Heap := (rzH1 h n).push { cls := .type "tuple", data := .seq #[.ref h.objs.size, .ref G] }
abbrev rzH3 (h : Heap) (n : Int) (G : Addr) : Heap := (rzH2 h n G).push { cls := .type "tuple", data := .seq #[.none, .none] }
abbrev rzH4 (h : Heap) (n : Int) (G : Addr) : Heap := (rzH3 h n G).push { cls := .type "zip", data := .fields #[.none, .bool false, .bool false, .ref (rzH1 h n).objs.size, .ref (rzH2 h n G).objs.size] }
theorem meets_zip_rg (R G : Addr) (g : Nat) (n : Int) (t u v : Tok) (h0 : 0 ≤ n) (h1 : n < 2 ^ 62) :
    Meets (Builtin.«zip.__new__» ⟨[.type "zip", .ref R, .ref G], []⟩) (fun _ Rr s => IsRange s.heap R 0 n 1 t u v ∧ s.heap.IsGen G g ∧
      Rr (.ok (.ret (.ref (rzH3 s.heap n G).objs.size))) { s with heap := rzH4 s.heap n G }) :=
  .of_wp fun prog w A Rr s h => by
    obtain ⟨hp, gn, d, tk, os⟩ := s; obtain ⟨hl1, hl2, h⟩ := h
    have hsub := sub_zip
    have e2 : Builtin.Range.rangeSize 0 n 1 = n := by rw [rangeSize_one]; split <;> omega
    have hL1 : IsRange (Shared.heap ⟨hp, gn, d, tk, os⟩) R 0 n 1 t u v := hl1
    have hL2 : Heap.IsGen (Shared.heap ⟨hp.push { cls := .type "range_iterator", data := .fields #[rawInt 0, rawInt (Builtin.Range.rangeSize 0 n 1), rawInt 1] }, gn, d, tk, os⟩) G g := Heap.IsGen.push hl2 _
    have hsm : Builtin.Range.small 0 n 1 = true := small_one (by decide) (by decide) (by omega) (by omega)
    wp_walk using wpAny_pyIter_range hL1 hsm, wpAny_pyIter_gen hL2
    rw [e2]
    exact ⟨_, rfl, h⟩
section
variable {prog : Program} {w : World} {A : Around} {E : Value → Shared → Prop} {s : Shared}
theorem call_zip_rg {R G : Addr} {g : Nat} {n : Int} {t u v : Tok} {Q : Value → Shared → Prop} (hl1 : IsRange s.heap R 0 n 1 t u v) (hl2 : s.heap.IsGen G g) (h0 : 0 ≤ n) (h1 : n < 2 ^ 62)
    (h : ∀ h', IsZip h' (s.heap.objs.size + 3) (s.heap.objs.size + 1) (s.heap.objs.size + 2) .none → IsPair h' (s.heap.objs.size + 1) (.ref s.heap.objs.size) (.ref G) →
      IsPair h' (s.heap.objs.size + 2) .none .none → IsRangeIter h' s.heap.objs.size 0 n 1 → h'.objs.size = s.heap.objs.size + 4 →
      (∀ c o, s.heap.get? c = some o → h'.get? c = some o) → Q (.ref (s.heap.objs.size + 3)) { s with heap := h' }) :
    wpAny (model prog w) A (call (.type "zip") [.ref R, .ref G]) Q E s := by
  refine callType_new F.called_zip (by decide) (F.typeCall_zip_2 _ _) (F.newCall_zip_2 _ _) (fun obj => F.args_object_init_3 obj _ _) F.entry_zip_new
    (meets_zip_rg R G g n t u v h0 h1) ⟨hl1, hl2, ?_⟩
  have z1 : (rzH1 s.heap n).objs.size = s.heap.objs.size + 1 := Heap.size_push ..
  have z2 : (rzH2 s.heap n G).objs.size = s.heap.objs.size + 2 := by rw [Heap.size_push, z1]
  have z3 : (rzH3 s.heap n G).objs.size = s.heap.objs.size + 3 := by rw [Heap.size_push, z2]
  have z4 : (rzH4 s.heap n G).objs.size = s.heap.objs.size + 4 := by rw [Heap.size_push, z3]
  have g4 : (rzH4 s.heap n G).get? (rzH3 s.heap n G).objs.size = some _ := Heap.get?_push_size _ rfl
  have g3 : (rzH4 s.heap n G).get? (rzH2 s.heap n G).objs.size = some _ := Heap.get?_push_of_some _ (Heap.get?_push_size _ rfl)
  have g2 : (rzH4 s.heap n G).get? (rzH1 s.heap n).objs.size = some _ := Heap.get?_push_of_some _ (Heap.get?_push_of_some _ (Heap.get?_push_size _ rfl))
  have g1 : (rzH4 s.heap n G).get? s.heap.objs.size = some _ := Heap.get?_push_of_some _ (Heap.get?_push_of_some _ (Heap.get?_push_of_some _ (Heap.get?_push_size _ rfl)))
  show _ ∧ _
  rw [z1, z2, z3] at g4
  rw [z1] at g2
  rw [z2] at g3
  rw [z3]
  exact ⟨⟨_, g4, rfl⟩, h _ g4 g2 g3 g1 z4 fun c o x =>
    Heap.get?_push_of_some _ (Heap.get?_push_of_some _ (Heap.get?_push_of_some _ (Heap.get?_push_of_some _ x)))⟩
end

/-! ### a turn of the zip -/
structure RzApart (z TI TO i1 : Addr) : Prop where
  TIz : TI ≠ z
  TOz : TO ≠ z
  i1z : i1 ≠ z
  TITO : TI ≠ TO
  TIi1 : TI ≠ i1
  TOi1 : TO ≠ i1
section
variable {prog : Program} {w : World} {A : Around} {E : Value → Shared → Prop} {s : Shared} {z TI TO i1 i2 : Addr} {a b : Value} {x left : Int}
/-- what is wanted of the generator's turn: Post of the state at its waking, its value, the state behind -/
abbrev GenTurn (prog : Program) (w : World) (A : Around) (i2 : Addr) (s : Shared) (cs : List Addr) (Post : Shared → Value → Shared → Prop) : Prop :=
  ∀ (s1 : Shared) (Q : Value → Shared → Prop) (E : Value → Shared → Prop), s1.os = s.os → s1.gens = s.gens → s1.drawn = s.drawn → (∀ c o, c ∉ cs → s.heap.get? c = some o → s1.heap.get? c = some o) → (∀ c ∈ cs, ∃ o, s1.heap.get? c = some o ∧ ∀ v, o.data ≠ .cell v) →
    (∀ v s2, Post s1 v s2 → Q v s2) → wpAny (model prog w) A (Builtin.SmallTypes.nextOf (.ref i2)) Q E s1
theorem zip_next_rg {Post : Shared → Value → Shared → Prop} {Q : Value → Shared → Prop} (D : RzApart z TI TO i1) (hz : IsZip s.heap z TI TO .none) (hTI : IsPair s.heap TI (.ref i1) (.ref i2)) (hTO : IsPair s.heap TO a b) (h1 : IsRangeIter s.heap i1 x left 1) (hleft : 0 < left)
    (hgen : GenTurn prog w A i2 s [z, TO, i1] Post)
    (hkeep : ∀ s1 v s2, Post s1 v s2 → ∀ c, c ∈ [z, TI, TO, i1] → ∀ o, s1.heap.get? c = some o → s2.heap.get? c = some o)
    (hQ : ∀ s1 x1 v s2 h8, Post s1 v s2 → IsRangeIter s2.heap i1 (x + 1) (left - 1) 1 → IsZip h8 z TI TO (rawInt s2.heap.objs.size) → IsPair h8 TO x1 v → IsPair h8 s2.heap.objs.size x1 v → (∀ c o, c ≠ z → c ≠ TO → s2.heap.get? c = some o → h8.get? c = some o) →
      (∀ c o, c ≠ z → c ≠ TO → c ≠ i1 → s.heap.get? c = some o → s1.heap.get? c = some o) → Q (.ref s2.heap.objs.size) { s2 with heap := h8 }) :
    wpAny (model prog w) A (Builtin.«zip.__next__» ⟨[.ref z], []⟩) (fun fin s' => ∃ v, fin = .done (.ret v) ∧ Q v s') E s := by
  obtain ⟨hp, g, d, tk0, os⟩ := s
  show wpAny _ _ (field (.ref z) 2 >>= _) _ _ _
  refine wpAny_bind (wpAny_field hz rfl (x := .bool false) rfl ?_)
  show wpAny _ _ (field (.ref z) 3 >>= _) _ _ _
  refine wpAny_bind (wpAny_field hz rfl (x := .ref TI) rfl ?_)
  refine wpAny_bind (wpAny_seqItems hTI rfl ?_)
  show wpAny _ _ (Builtin.SmallTypes.ownedTupleIsFree (.ref z) >>= _) _ _ _
  refine wpAny_bind ?_
  unfold Builtin.SmallTypes.ownedTupleIsFree
  refine wpAny_bind (wpAny_field hz rfl (x := .none) rfl (wpAny_pure ?_))
  simp only [if_true]
  refine wpAny_bind (wpAny_rule ?_)
  refine wpAny_bind (wpAny_field hz rfl (x := .ref TO) rfl ?_)
  refine wpAny_bind (wpAny_setField_rec hz (by simp) fun g0 hz0 hs0 => ?_)
  replace hz0 : IsZip g0 z TI TO .ellipsis := hz0
  replace hs0 : Heap.SameBut z hp g0 := hs0
  refine wpAny_bind ?_
  simp only [List.zipIdx_cons, List.zipIdx_nil, List.forIn_cons, List.forIn_nil]
  refine wpAny_bind (wpAny_bind (wpAny_onRaise ?_))
  show wpAny _ _ (Builtin.SmallTypes.nextOf (.ref i1) >>= _) _ _ ⟨g0, g, d, tk0, os⟩
  have h1' : IsRangeIter g0 i1 x left 1 := hs0.extBut _ _ D.i1z h1
  refine wpAny_bind (nextOf_range_item (s := ⟨g0, g, d, tk0, os⟩) h1' hleft fun p1 hr1 hp1 => wpAny_pure ?_)
  replace hp1 : Heap.SameBut i1 g0 p1 := hp1
  have hU1 : IsPair p1 TO a b := hp1.extBut _ _ D.TOi1 (hs0.extBut _ _ D.TOz hTO)
  refine wpAny_bind (wpAny_seqItems (s := ⟨p1, g, d, tk0 + 1, os⟩) hU1 rfl ?_)
  refine wpAny_bind (wpAny_updateSeq_pair (s := ⟨p1, g, d, tk0 + 1, os⟩) hU1 fun g1 hT1 hs1 => ?_)
  replace hT1 : IsPair g1 TO (.int x tk0) b := hT1
  replace hs1 : Heap.SameBut TO p1 g1 := hs1
  refine wpAny_bind (wpAny_letGo (wpAny_pure ?_))
  refine wpAny_bind (wpAny_bind (wpAny_onRaise ?_))
  show wpAny _ _ (Builtin.SmallTypes.nextOf (.ref i2) >>= _) _ _ ⟨g1, g, d, tk0 + 1, os⟩
  have hzg : IsZip g1 z TI TO .ellipsis := hs1.extBut _ _ D.TOz.symm (hp1.extBut _ _ D.i1z.symm hz0)
  have hrg : IsRangeIter g1 i1 (x + 1) (left - 1) 1 := hs1.extBut _ _ D.TOi1.symm hr1
  have hTg : IsPair g1 TI (.ref i1) (.ref i2) := hs1.extBut _ _ D.TITO (hp1.extBut _ _ D.TIi1 (hs0.extBut _ _ D.TIz hTI))
  have hkk : ∀ c o, c ≠ z → c ≠ TO → c ≠ i1 → hp.get? c = some o → g1.get? c = some o := fun c o cz cT c1 e => hs1.extBut _ _ cT (hp1.extBut _ _ c1 (hs0.extBut _ _ cz e))
  refine wpAny_bind (hgen ⟨g1, g, d, tk0 + 1, os⟩ _ _ rfl rfl rfl (fun c o hc e => hkk c o (fun q => hc (by simp [q])) (fun q => hc (by simp [q])) (fun q => hc (by simp [q])) e) (fun c hc => ?_) fun v s2 hpo => wpAny_pure ?_)
  · simp only [List.mem_cons, List.not_mem_nil, or_false] at hc
    rcases hc with rfl | rfl | rfl
    · exact ⟨_, hzg, fun v q => by cases q⟩
    · exact ⟨_, hT1, fun v q => by cases q⟩
    · exact ⟨_, hrg, fun v q => by cases q⟩
  have kk := hkeep _ _ _ hpo
  have hz2 : IsZip s2.heap z TI TO .ellipsis := kk z (by simp) _ hzg
  have hT2 : IsPair s2.heap TO (.int x tk0) b := kk TO (by simp) _ hT1
  have hr2 : IsRangeIter s2.heap i1 (x + 1) (left - 1) 1 := kk i1 (by simp) _ hrg
  obtain ⟨p2, gg2, d2, tk2, os2⟩ := s2
  refine wpAny_bind (wpAny_seqItems (s := ⟨p2, gg2, d2, tk2, os2⟩) hT2 rfl ?_)
  refine wpAny_bind (wpAny_updateSeq_pair (s := ⟨p2, gg2, d2, tk2, os2⟩) hT2 fun g2 hT3 hs2 => ?_)
  replace hT3 : IsPair g2 TO (.int x tk0) v := hT3
  replace hs2 : Heap.SameBut TO p2 g2 := hs2
  refine wpAny_bind (wpAny_letGo (wpAny_pure (wpAny_pure ?_)))
  refine wpAny_bind (wpAny_seqItems (s := ⟨g2, gg2, d2, tk2, os2⟩) hT3 rfl ?_)
  refine wpAny_bind (wpAny_newTuple ?_)
  have hsz : g2.objs.size = p2.objs.size := hs2.1
  have hzz : IsZip g2 z TI TO .ellipsis := hs2.extBut _ _ D.TOz.symm hz2
  have hzlt : z < g2.objs.size := Heap.lt_size hzz
  show wpAny _ _ (Builtin.SmallTypes.ownedTupleHandOut (.ref z) (.ref g2.objs.size) >>= _) _ _ ⟨g2.push { cls := .type "tuple", data := .seq #[.int x tk0, v] }, gg2, d2, tk2, os2⟩
  refine wpAny_bind ?_
  unfold Builtin.SmallTypes.ownedTupleHandOut
  have hz₆ : IsZip (g2.push { cls := .type "tuple", data := .seq #[.int x tk0, v] }) z TI TO .ellipsis := Heap.get?_push_of_some _ hzz
  refine wpAny_bind (wpAny_setField_rec hz₆ (by simp) fun h₇ hz₇ hs₇ => ?_)
  replace hz₇ : IsZip h₇ z TI TO (rawInt g2.objs.size) := hz₇
  refine wpAny_setField_rec hz₇ (by simp) fun h₈ hz₈ hs₈ => ?_
  replace hz₈ : IsZip h₈ z TI TO (rawInt g2.objs.size) := hz₈
  replace hs₇ : Heap.SameBut z (g2.push { cls := .type "tuple", data := .seq #[.int x tk0, v] }) h₇ := hs₇
  replace hs₈ : Heap.SameBut z h₇ h₈ := hs₈
  have up : ∀ c o, c ≠ z → g2.get? c = some o → h₈.get? c = some o := fun c o c1 e => hs₈.extBut _ _ c1 (hs₇.extBut _ _ c1 (Heap.get?_push_of_some _ e))
  have hT₈ : IsPair h₈ g2.objs.size (.int x tk0) v := hs₈.extBut _ _ (Nat.ne_of_gt hzlt) (hs₇.extBut _ _ (Nat.ne_of_gt hzlt) (Heap.get?_push_size _ rfl))
  rw [hsz] at hz₈ hT₈
  refine wpAny_pure ⟨_, rfl, ?_⟩
  show Q (.ref g2.objs.size) ⟨h₈, gg2, d2, tk2, os2⟩
  rw [hsz]
  exact hQ _ (.int x tk0) v ⟨p2, gg2, d2, tk2, os2⟩ h₈ hpo hr2 hz₈ (up _ _ D.TOz hT3) hT₈ (fun c o c1 c2 e => up c o c1 (hs2.extBut _ _ c2 e)) hkk
theorem zip_end_rg {Q : Fin → Shared → Prop} (hh : A.handled = none) (D : RzApart z TI TO i1) (hz : IsZip s.heap z TI TO .none) (hTI : IsPair s.heap TI (.ref i1) (.ref i2)) (hTO : IsPair s.heap TO a b) (h1 : IsRangeIter s.heap i1 x left 1) (hleft : left ≤ 0)
    (hE : ∀ h' e, (∀ c o, c ≠ z → c ≠ TO → c ≠ i1 → s.heap.get? c = some o → h'.get? c = some o) → (∃ o, h'.get? e = some o ∧ o.cls = .type "StopIteration") → E (.ref e) { s with heap := h' }) :
    wpAny (model prog w) A (Builtin.«zip.__next__» ⟨[.ref z], []⟩) Q E s := by
  obtain ⟨hp, g, d, tk0, os⟩ := s
  show wpAny _ _ (field (.ref z) 2 >>= _) _ _ _
  refine wpAny_bind (wpAny_field hz rfl (x := .bool false) rfl ?_)
  show wpAny _ _ (field (.ref z) 3 >>= _) _ _ _
  refine wpAny_bind (wpAny_field hz rfl (x := .ref TI) rfl ?_)
  refine wpAny_bind (wpAny_seqItems hTI rfl ?_)
  show wpAny _ _ (Builtin.SmallTypes.ownedTupleIsFree (.ref z) >>= _) _ _ _
  refine wpAny_bind ?_
  unfold Builtin.SmallTypes.ownedTupleIsFree
  refine wpAny_bind (wpAny_field hz rfl (x := .none) rfl (wpAny_pure ?_))
  simp only [if_true]
  refine wpAny_bind (wpAny_rule ?_)
  refine wpAny_bind (wpAny_field hz rfl (x := .ref TO) rfl ?_)
  refine wpAny_bind (wpAny_setField_rec hz (by simp) fun g0 hz0 hs0 => ?_)
  replace hz0 : IsZip g0 z TI TO .ellipsis := hz0
  replace hs0 : Heap.SameBut z hp g0 := hs0
  refine wpAny_bind ?_
  simp only [List.zipIdx_cons, List.zipIdx_nil, List.forIn_cons, List.forIn_nil]
  refine wpAny_bind (wpAny_bind (wpAny_onRaise ?_))
  show wpAny _ _ (Builtin.SmallTypes.nextOf (.ref i1) >>= _) _ _ ⟨g0, g, d, tk0, os⟩
  have h1' : IsRangeIter g0 i1 x left 1 := hs0.extBut _ _ D.i1z h1
  refine wpAny_bind (nextOf_range_end (s := ⟨g0, g, d, tk0, os⟩) hh h1' hleft fun q e hq he => ?_)
  replace hq : Heap.ExtBut i1 g0 q := hq
  obtain ⟨oe, hoe, hce⟩ := he
  replace hoe : q.get? e = some oe := hoe
  have hzq : IsZip q z TI TO .ellipsis := hq _ _ D.i1z.symm hz0
  have hez : e ≠ z := fun x => by subst x; rw [hzq] at hoe; cases hoe; simp at hce
  refine wpAny_setField_rec (s := ⟨q, g, d, tk0, os⟩) hzq (by simp) fun q' _ hq' => ?_
  replace hq' : Heap.SameBut z q q' := hq'
  exact hE q' e (fun c o cz cT c1 x => hq'.extBut _ _ cz (hq _ _ c1 (hs0.extBut _ _ cz x))) ⟨oe, hq'.extBut _ _ hez hoe, hce⟩
theorem pyNext_rg {Post : Shared → Value → Shared → Prop} {Q : Option Value → Shared → Prop} (D : RzApart z TI TO i1) (hz : IsZip s.heap z TI TO .none) (hTI : IsPair s.heap TI (.ref i1) (.ref i2)) (hTO : IsPair s.heap TO a b) (h1 : IsRangeIter s.heap i1 x left 1) (hleft : 0 < left)
    (hgen : GenTurn prog w A.in1 i2 s [z, TO, i1] Post)
    (hkeep : ∀ s1 v s2, Post s1 v s2 → ∀ c, c ∈ [z, TI, TO, i1] → ∀ o, s1.heap.get? c = some o → s2.heap.get? c = some o)
    (hQ : ∀ s1 x1 v s2 h8, Post s1 v s2 → IsRangeIter s2.heap i1 (x + 1) (left - 1) 1 → IsZip h8 z TI TO (rawInt s2.heap.objs.size) → IsPair h8 TO x1 v → IsPair h8 s2.heap.objs.size x1 v → (∀ c o, c ≠ z → c ≠ TO → s2.heap.get? c = some o → h8.get? c = some o) →
      (∀ c o, c ≠ z → c ≠ TO → c ≠ i1 → s.heap.get? c = some o → s1.heap.get? c = some o) → Q (some (.ref s2.heap.objs.size)) { s2 with heap := h8 }) :
    wpAny (model prog w) A (pyNext (.ref z)) Q E s := by
  have hT : s.TypeIs (.ref z) "zip" := ⟨_, hz, rfl⟩
  unfold pyNext
  exact wpAny_bind (wpAny_attempt (wpAny_callSpecial?_slot (name := Str.ofString "__next__") hT F.slot_zip_next
    (wpAny_call_entry F.slot_zip_next hT F.entry_zip_next
      (zip_next_rg D hz hTI hTO h1 hleft hgen hkeep fun s1 x1 v s2 h8 b1 b2 b3 b4 b5 b6 b7 => wpAny_pure (hQ s1 x1 v s2 h8 b1 b2 b3 b4 b5 b6 b7)) (F.args_zip_next_1 _))))
theorem pyNext_rg_end {Q : Option Value → Shared → Prop} (hh : A.handled = none) (D : RzApart z TI TO i1) (hz : IsZip s.heap z TI TO .none) (hTI : IsPair s.heap TI (.ref i1) (.ref i2)) (hTO : IsPair s.heap TO a b) (h1 : IsRangeIter s.heap i1 x left 1) (hleft : left ≤ 0)
    (hQ : ∀ h', (∀ c o, c ≠ z → c ≠ TO → c ≠ i1 → s.heap.get? c = some o → h'.get? c = some o) → Q none { s with heap := h' }) : wpAny (model prog w) A (pyNext (.ref z)) Q E s := by
  have hT : s.TypeIs (.ref z) "zip" := ⟨_, hz, rfl⟩
  unfold pyNext
  refine wpAny_bind (wpAny_attempt (wpAny_callSpecial?_slot (name := Str.ofString "__next__") hT F.slot_zip_next
    (wpAny_call_entry F.slot_zip_next hT F.entry_zip_next (zip_end_rg hh D hz hTI hTO h1 hleft fun h' e hk he => ?_) (F.args_zip_next_1 _))))
  obtain ⟨o, ho, hc⟩ := he
  refine wpAny_bind (wpAny_isInstance (T := "StopIteration") (b := true) ⟨o, ho, hc⟩ isSubtype_stop ?_)
  exact wpAny_pure (hQ _ hk)
end
end Rd
end T_RdZip
section T_RdGen
set_option Elab.async false
set_option linter.all false
set_option maxRecDepth 100000
set_option maxHeartbeats 4000000
/-! A generator def of the form «st1; while True: yield e; st2», woken step by step by a consumer that fills the list at D and changes nothing outside W. -/
namespace Rd
open PySem PySem.Spec PyProof.Rows L2 GenW

/-- while the generator sleeps: the consumer puts v behind D and changes what is in W alone -/
structure Awake (W : List Addr) (D : Addr) (v : Value) (s s' : Shared) : Prop where
  os : s'.os = s.os
  bare : AllBare s'.gens
  keep : ∀ b o, b ∉ W → s.heap.get? b = some o → s'.heap.get? b = some o
  there : ∀ b ∈ W, ∃ o, s'.heap.get? b = some o ∧ ∀ v, o.data ≠ .cell v
  own : ∀ acc c, s.heap.get? D = some (lstObj acc c) → ∃ c', s'.heap.get? D = some (lstObj (acc.push v) c')
/-- the addresses that the consumer may change -/
structure WOk (X : Cx) (W : List Addr) : Prop where
  young : ∀ b ∈ W, X.s_0.heap.objs.size ≤ b
  loc : ∀ b ∈ W, b ≠ X.env.locals
  cel : ∀ b ∈ W, ∀ x c, X.env.cells.lookup x = some c → c ≠ b
/-- the generator is to run: ys is out and stands at D -/
structure GRun (X : Cx) (W : List Addr) (D : Addr) (ys : List V) (σ : L2.St) (H : Hp) (s : Shared) : Prop where
  inv : Inv X (pinsAt W s.heap) σ H s
  free : ∀ b ∈ W, H b = none
  there : ∀ b ∈ W, ∃ o, s.heap.get? b = some o ∧ ∀ v, o.data ≠ .cell v
  own : ∃ (acc : Array Value) (c : Nat), s.heap.get? D = some (lstObj acc c) ∧ Vals ys acc.toList
def YW (X : Cx) (W : List Addr) (D : Addr) (Out : List V → Hp → Prop) : Protocol := fun n s₀ v s kap =>
  ∃ ys x σ Hg acc c, RelV x v ∧ s₀.heap.get? D = some (lstObj acc c) ∧ Vals ys acc.toList ∧ Inv X [] σ Hg s ∧ Out (ys ++ [x]) Hg ∧ (∀ b ∈ W, Hg b = none) ∧ (∀ b ∈ W, ∀ o, s₀.heap.get? b = some o → s.heap.get? b = some o) ∧
    (0 < n → ∀ s'', Awake W D v s s'' → kap (.send .none) s'')
abbrev RF : GenEnd := fun _ _ _ _ => False

section
variable {X : Cx} {W : List Addr} {D : Addr}
/-- an Inv without pins, told at a state where W changed -/
theorem GRun.of {pins : List (Addr × Obj)} {σ : L2.St} {H : Hp} {s s' : Shared} {ys : List V} (hpn : ∀ p ∈ X.pn, p.1 ∉ W) (ok : WOk X W) (I : Inv X pins σ H s) (free : ∀ b ∈ W, H b = none) (ho : s'.os = s.os) (hb : AllBare s'.gens)
    (keep : ∀ b o, b ∉ W → s.heap.get? b = some o → s'.heap.get? b = some o) (there : ∀ b ∈ W, ∃ o, s'.heap.get? b = some o ∧ ∀ v, o.data ≠ .cell v)
    (own : ∃ (acc : Array Value) (c : Nat), s'.heap.get? D = some (lstObj acc c) ∧ Vals ys acc.toList) : GRun X W D ys σ H s' := by
  have I0 : Inv X [] σ H s := I.pins_of fun p hp => nomatch hp
  have nW : ∀ {b : Addr} {u : HO}, H b = some u → b ∉ W := fun {b u} q hb => by rw [free b hb] at q; cases q
  obtain ⟨hh, g, d, t, o⟩ := s'
  have ho' : o = s.os := ho
  subst ho'
  have J : Inv X [] σ H { s with heap := hh, gens := g, drawn := d, toks := t } := by
    refine I0.step (g' := g) (t' := t) (d' := d) (ch := W) (fun b hb => ⟨.inr (ok.young b hb), ok.loc b hb, ok.cel b hb, fun p hp z => hpn p (by rw [List.append_nil] at hp; exact hp) (z ▸ hb)⟩)
      (fun b ob _ _ hc q _ => keep b ob hc q) (fun b ob _ _ hc q _ => ⟨ob.slots, keep b ob hc q⟩) (fun _ _ _ _ n => n) (fun b ob hc q => ⟨ob, keep b ob hc q⟩)
      (fun _ _ q => q) (fun _ _ _ q => q) (fun b ps q => ⟨#[], by rw [q]; simp⟩) (fun m hm => ?_) (fun b u q => ?_) hb
    · obtain ⟨ob, es, ep, ho, r⟩ := hm
      exact ⟨ob, es, ep, keep _ ob (fun z => ok.loc _ z rfl) ho, r⟩
    · refine (I0.hok b u q).stay (fun c v hc y => keep c v ?_ y) (fun _ y => y) fun _ _ y => y
      rcases hc with y | y
      · rw [y]; exact nW q
      · exact nW y
  refine ⟨J.pins_of fun p hp => ?_, free, there, own⟩
  obtain ⟨hb2, e⟩ := of_pinsAt hp
  obtain ⟨ob, e2, nc⟩ := there p.1 hb2
  have e3 : ob = p.2 := by
    have e4 : some ob = some p.2 := e2.symm.trans e
    exact Option.some.inj e4
  refine ⟨e, free p.1 hb2, ok.loc p.1 hb2, fun hf => ?_, e3 ▸ nc⟩
  obtain ⟨_, o2, ho2, _⟩ := X.env |> fun _ => J.ok.funs.mem hf
  exact absurd (Nat.lt_of_lt_of_le (Heap.lt_size ho2) (ok.young p.1 hb2)) (Nat.lt_irrefl _)
theorem GRun.at {pl : List (Addr × Obj)} {σ : L2.St} {H : Hp} {s s' : Shared} {σ' : L2.St} {H' : Hp} (J : Inv X (pinsAt W s.heap) σ' H' s') : ∀ b ∈ W, ∀ o, s.heap.get? b = some o → s'.heap.get? b = some o ∧ H' b = none := fun b hb o e => by
  have z := J.pin (b, o) (List.mem_append_right _ (mem_pinsAt hb e))
  exact ⟨z.1, z.2.1⟩

variable {Aw : Around} {body wb : List Stmt} {test e : Expr} {st1 st2 : Stmt} {yp ep wp : Pos} {t1 t2 : TS} {te : TE} {Good : List V → L2.St → Hp → Prop} {Out : List V → Hp → Prop}
/-- the loop -/
theorem gen_loop (hpn : ∀ p ∈ X.pn, p.1 ∉ W) (hxe : X.xe = fun _ _ => False) (ok : WOk X W) (hD : D ∈ W) (hover : Aw.over (.func body X.env) [] = X.A) (hc : PT X test (tB (tC (.bl true)))) (he : PE X e te) (h2 : PS X st2 t2)
    (hco : X.env.scope.isCoroutine = false) (hi : interactive X.env = false)
    (c2 : ∀ ys σ H, Good ys σ H → te σ H fun v H1 => (∀ b, H1 b = none → H b = none) ∧ Out (ys ++ [v]) H1 ∧ t2 { nx := Good (ys ++ [v]), rt := fun _ _ => False } σ H1)
    {k : Result → Sem PySem.Fin} {lv : List Value} {p : Pos} :
    ∀ (n : Nat) (s₀ s : Shared) (ys : List V) (σ : L2.St) (H : Hp), GRun X W D ys σ H s → Good ys σ H → (∀ b ∈ W, ∀ o, s₀.heap.get? b = some o → s.heap.get? b = some o) → (∀ b ∈ W, ∃ o, s₀.heap.get? b = some o) →
      Seg (model X.prog X.w) Aw RF (YW X W D Out) (n + 1) s₀ (.whileLoop test [.Expr (.Yield (some e) yp) ep, st2] [] X.env) ((model X.prog X.w).den (.whileLoop test [.Expr (.Yield (some e) yp) ep, st2] [] X.env)) [.ret k none false lv (.func body X.env) p []] s := by
  have ov : Aw.over (.whileLoop test [.Expr (.Yield (some e) yp) ep, st2] [] X.env) [.ret k none false lv (.func body X.env) p []] = X.A := (over_loop rfl rfl).trans hover
  have nox : ∀ {α : Type} {t : Sem α} {Q Q' : α → Shared → Prop} {E : Value → Shared → Prop} {s : Shared}, wpAny (model X.prog X.w) X.A t Q X.xe s → (∀ a s', Q a s' → Q' a s') → wpAny (model X.prog X.w) X.A t Q' E s := fun h hq => by
    rw [hxe] at h
    exact wpAny_mono h hq fun _ _ z => z.elim
  intro n
  induction n with
  | zero =>
    intro s₀ s ys σ H R hG hk0 hth
    refine seg_whileLoop ?_
    rw [ov]
    refine nox (hc.run _ s σ H (fun b H1 => b = true ∧ H1 = H) R.inv ⟨true, rfl, rfl, rfl⟩) fun b s1 hb1 => ?_
    obtain ⟨H1, I1, rfl, rfl⟩ := hb1
    rw [if_pos rfl]
    refine seg_execs_cons (seg_Expr_Yield rfl rfl rfl ?_ hco hi)
    rw [ov]
    refine nox (he.run _ s1 σ H1 _ I1 (c2 ys σ H1 hG)) fun v s2 hv => ?_
    obtain ⟨x, H2, I2, rv, hfr, hO, ht2⟩ := hv
    intro kap hkap
    obtain ⟨acc, c, eD, rD⟩ := R.own
    have at2 := GRun.at (pl := []) (σ := σ) (H := H1) I2
    have eD0 : s₀.heap.get? D = some (lstObj acc c) := by
      obtain ⟨o, eo⟩ := hth D hD
      have := hk0 D hD o eo
      rw [eD] at this
      rw [eo, ← Option.some.inj this]
    refine ⟨ys, x, σ, H2, acc, c, rv, eD0, rD, (I2.pins_of fun p hp => nomatch hp), hO, fun b hb => ?_, fun b hb o eo => (at2 b hb o (hk0 b hb o eo)).1, fun h => absurd h (Nat.lt_irrefl _)⟩
    obtain ⟨o, eo, _⟩ := R.there b hb
    exact (at2 b hb o eo).2
  | succ n ih =>
    intro s₀ s ys σ H R hG hk0 hth
    refine seg_whileLoop ?_
    rw [ov]
    refine nox (hc.run _ s σ H (fun b H1 => b = true ∧ H1 = H) R.inv ⟨true, rfl, rfl, rfl⟩) fun b s1 hb1 => ?_
    obtain ⟨H1, I1, rfl, rfl⟩ := hb1
    rw [if_pos rfl]
    refine seg_execs_cons (seg_Expr_Yield rfl rfl rfl ?_ hco hi)
    rw [ov]
    refine nox (he.run _ s1 σ H1 _ I1 (c2 ys σ H1 hG)) fun v s2 hv => ?_
    obtain ⟨x, H2, I2, rv, hfr, hO, ht2⟩ := hv
    intro kap hkap
    obtain ⟨acc, c, eD, rD⟩ := R.own
    have at2 := GRun.at (pl := []) (σ := σ) (H := H1) I2
    have eD0 : s₀.heap.get? D = some (lstObj acc c) := by
      obtain ⟨o, eo⟩ := hth D hD
      have := hk0 D hD o eo
      rw [eD] at this
      rw [eo, ← Option.some.inj this]
    have eD2 : s2.heap.get? D = some (lstObj acc c) := (at2 D hD _ eD).1
    have fr2 : ∀ b ∈ W, H2 b = none := fun b hb => by
      obtain ⟨o, eo, _⟩ := R.there b hb
      exact (at2 b hb o eo).2
    refine ⟨ys, x, σ, H2, acc, c, rv, eD0, rD, (I2.pins_of fun p hp => nomatch hp), hO, fr2, fun b hb o eo => (at2 b hb o (hk0 b hb o eo)).1, fun _ s'' aw => hkap .none s'' ?_⟩
    obtain ⟨c', eD3⟩ := aw.own acc c eD2
    have R3 : GRun X W D (ys ++ [x]) σ H2 s'' := GRun.of hpn ok I2 fr2 aw.os aw.bare aw.keep aw.there ⟨_, c', eD3, by rw [Array.toList_push]; exact rD.append (.cons rv .nil)⟩
    show Seg _ _ _ _ _ _ _ ((execs [st2] X.env).wrap _ _ _ _) _ _
    refine seg_execs_cons (seg_wrap ?_)
    rw [ov]
    refine nox (h2.run _ s'' σ H2 _ R3.inv ht2) fun f s4 hf => ?_
    cases f with
    | next =>
      obtain ⟨σ4, H4, I4, G4⟩ := hf
      have at4 := GRun.at (pl := []) (σ := σ) (H := H2) I4
      refine seg_execs_nil (seg_again rfl (ih s'' s4 (ys ++ [x]) σ4 H4 ?_ G4 (fun b hb o eo => (at4 b hb o eo).1) fun b hb => let ⟨o, eo, _⟩ := aw.there b hb; ⟨o, eo⟩))
      refine GRun.of hpn ok I4 (fun b hb => ?_) rfl I4.bare (fun b o _ e => e) (fun b hb => ?_) ⟨_, c', (at4 D hD _ eD3).1, by rw [Array.toList_push]; exact rD.append (.cons rv .nil)⟩
      · obtain ⟨o, eo, _⟩ := aw.there b hb
        exact (at4 b hb o eo).2
      · obtain ⟨o, eo, nc⟩ := aw.there b hb
        exact ⟨o, (at4 b hb o eo).1, nc⟩
    | ret u => obtain ⟨_, _, _, _, _, q⟩ := hf; exact q.elim
    | brk => obtain ⟨_, _, _, q⟩ := hf; exact q.elim
    | cont => obtain ⟨_, _, _, q⟩ := hf; exact q.elim
/-- from the beginning -/
theorem gen_first (hpn : ∀ p ∈ X.pn, p.1 ∉ W) (hxe : X.xe = fun _ _ => False) (ok : WOk X W) (hD : D ∈ W) (hover : Aw.over (.func [st1, .While test [.Expr (.Yield (some e) yp) ep, st2] [] wp] X.env) [] = X.A) (hc : PT X test (tB (tC (.bl true)))) (h1 : PS X st1 t1) (he : PE X e te) (h2 : PS X st2 t2)
    (hco : X.env.scope.isCoroutine = false) (hi : interactive X.env = false)
    (c2 : ∀ ys σ H, Good ys σ H → te σ H fun v H1 => (∀ b, H1 b = none → H b = none) ∧ Out (ys ++ [v]) H1 ∧ t2 { nx := Good (ys ++ [v]), rt := fun _ _ => False } σ H1)
    (n : Nat) (s : Shared) (σ : L2.St) (H : Hp) (R : GRun X W D [] σ H s) (c1 : t1 { nx := Good [], rt := fun _ _ => False } σ H) :
    Seg (model X.prog X.w) Aw RF (YW X W D Out) (n + 1) s (.func [st1, .While test [.Expr (.Yield (some e) yp) ep, st2] [] wp] X.env) ((model X.prog X.w).den (.func [st1, .While test [.Expr (.Yield (some e) yp) ep, st2] [] wp] X.env)) [] s := by
  refine seg_func (seg_execs_cons (seg_wrap ?_))
  rw [hover]
  have nox : ∀ {α : Type} {t : Sem α} {Q Q' : α → Shared → Prop} {E : Value → Shared → Prop} {s : Shared}, wpAny (model X.prog X.w) X.A t Q X.xe s → (∀ a s', Q a s' → Q' a s') → wpAny (model X.prog X.w) X.A t Q' E s := fun h hq => by
    rw [hxe] at h
    exact wpAny_mono h hq fun _ _ z => z.elim
  refine nox (h1.run _ s σ H _ R.inv c1) fun f s1 hf => ?_
  cases f with
  | next =>
    obtain ⟨σ1, H1, I1, G1⟩ := hf
    have at1 := GRun.at (pl := []) (σ := σ) (H := H) I1
    obtain ⟨acc, c, eD, rD⟩ := R.own
    refine seg_execs_cons (seg_While fun p => ?_)
    refine gen_loop hpn hxe ok hD hover hc he h2 hco hi c2 n s s1 [] σ1 H1 ?_ G1 (fun b hb o eo => (at1 b hb o eo).1) fun b hb => let ⟨o, eo, _⟩ := R.there b hb; ⟨o, eo⟩
    refine GRun.of hpn ok I1 (fun b hb => ?_) rfl I1.bare (fun b o _ e => e) (fun b hb => ?_) ⟨acc, c, (at1 D hD _ eD).1, rD⟩
    · obtain ⟨o, eo, _⟩ := R.there b hb
      exact (at1 b hb o eo).2
    · obtain ⟨o, eo, nc⟩ := R.there b hb
      exact ⟨o, (at1 b hb o eo).1, nc⟩
  | ret u => obtain ⟨_, _, _, _, _, q⟩ := hf; exact q.elim
  | brk => obtain ⟨_, _, _, q⟩ := hf; exact q.elim
  | cont => obtain ⟨_, _, _, q⟩ := hf; exact q.elim
end
end Rd
end T_RdGen
section T_RdGenC
set_option Elab.async false
set_option linter.all false
set_option maxRecDepth 100000
set_option maxHeartbeats 4000000
/-! A generator def's promise for a stepwise consumer; [x for k, x in zip(range(n), g(..))]. -/
namespace Rd
open PySem PySem.Spec PyProof.Rows L2 GenW

/-- the promise: the arguments, the heap; Out ys Hg: what holds of the heap when ys has been handed out -/
abbrev SpS := List V → Hp → (List V → Hp → Prop) → Prop
/-- the generator's side of a state: behind the call at s, the tracked heap Hg is held -/
structure GOut (P : Program) (w : World) (outer : List Env) (H : Hp) (s : Shared) (a : Addr) (g : Nat) (W : List Addr) (Hg : Hp) (s1 : Shared) : Prop where
  os : s1.os = s.os
  bare : AllBare s1.gens
  lim : s1.heap.NoLimit
  un : Un (frs outer) [] H Hg s.heap s1.heap
  hok : HOk P w Hg s1.heap
  free : ∀ b ∈ W, Hg b = none
  gen : s1.heap.IsGen a g
theorem GOut.awake {P : Program} {w : World} {outer : List Env} {H Hg : Hp} {s s1 s2 : Shared} {a : Addr} {g : Nat} {W : List Addr} (o : GOut P w outer H s a g W Hg s1) (hW : ∀ b ∈ W, s.heap.objs.size ≤ b) (ha : a ∉ W) (hc : cStatics ∉ W) (ho : s2.os = s1.os) (hb : AllBare s2.gens)
    (keep : ∀ b ob, b ∉ W → s1.heap.get? b = some ob → s2.heap.get? b = some ob) : GOut P w outer H s a g W Hg s2 := by
  have old : ∀ {b : Addr} {ob : Obj}, s.heap.get? b = some ob → b ∉ W := fun {b ob} e hb => absurd (Nat.lt_of_lt_of_le (Heap.lt_size e) (hW b hb)) (Nat.lt_irrefl _)
  have nW : ∀ {b : Addr} {u : HO}, Hg b = some u → b ∉ W := fun {b u} q hb => by rw [o.free b hb] at q; cases q
  refine ⟨ho.trans o.os, hb, ?_, ⟨fun b ob e n hf hx => keep b ob (old e) (o.un.keep b ob e n hf hx), fun b ob e n hf hx => ?_, o.un.free, fun b ob e hx => ?_, o.un.tups, o.un.frzs, o.un.tbls⟩, fun b u q => ?_, o.free, ?_⟩
  · obtain ⟨m, hn, l⟩ := o.lim
    obtain ⟨ob, es, ep, e, r⟩ := hn
    exact ⟨m, ⟨ob, es, ep, keep _ _ hc e, r⟩, l⟩
  · obtain ⟨sl, e1⟩ := o.un.slot b ob e n hf hx
    exact ⟨sl, keep _ _ (old e) e1⟩
  · obtain ⟨o', e1⟩ := o.un.there b ob e hx
    exact ⟨o', keep _ _ (old e) e1⟩
  · refine (o.hok b u q).stay (fun c v hc y => keep c v ?_ y) (fun _ y => y) fun _ _ y => y
    rcases hc with y | y
    · rw [y]; exact nW q
    · exact nW y
  · obtain ⟨ob, nm, qn, e, r⟩ := o.gen
    exact ⟨ob, nm, qn, keep _ _ ha e, r⟩
/-- an item is handed out -/
def YS (P : Program) (w : World) (outer : List Env) (H : Hp) (s : Shared) (a : Addr) (g : Nat) (W : List Addr) (D : Addr) (Out : List V → Hp → Prop) : Protocol := fun n s₀ v s1 kap =>
  ∃ ys x Hg acc c, RelV x v ∧ s₀.heap.get? D = some (lstObj acc c) ∧ Vals ys acc.toList ∧ GOut P w outer H s a g W Hg s1 ∧ Out (ys ++ [x]) Hg ∧ (∀ b ∈ W, ∀ o, s₀.heap.get? b = some o → s1.heap.get? b = some o) ∧
    (0 < n → ∀ s'', Awake W D v s1 s'' → kap (.send .none) s'')
/-- what a call of the def gives -/
def SMade (P : Program) (w : World) (k : Nat) (outer : List Env) (H : Hp) (s : Shared) (Out : List V → Hp → Prop) (u : Value) (s' : Shared) : Prop :=
  ∃ (a : Addr) (g : Nat) (c : Code), u = .ref a ∧ s.heap.objs.size ≤ a ∧ a < s'.heap.objs.size ∧ cStatics < s'.heap.objs.size ∧ s'.heap.IsGen a g ∧ s'.gens[g]? = some (.fresh c) ∧ s'.os = s.os ∧ AllBare s'.gens ∧ s'.heap.NoLimit ∧ (∀ b o, s.heap.get? b = some o → s'.heap.get? b = some o) ∧
    ∀ (A : Around) (W : List Addr) (D : Addr) (s2 : Shared), Room k A → A.frames = some outer → (∀ b ∈ W, s'.heap.objs.size ≤ b) → D ∈ W → (∀ b o, s'.heap.get? b = some o → s2.heap.get? b = some o) → (∀ b ∈ W, ∃ o, s2.heap.get? b = some o ∧ ∀ v, o.data ≠ .cell v) → (∃ c, s2.heap.get? D = some (lstObj #[] c)) → s2.os = s.os → AllBare s2.gens →
      ∀ n, Seg (model P w) A RF (YS P w outer H s a g W D Out) (n + 1) s2 c ((model P w).den c) [] s2
structure GStep (P : Program) (w : World) (K : PySem.W.Frag) (mg : Str → Option Value) (base : Heap) (k : Nat) (f : Addr) (fd : FuncData) (ps : List Str) (sp : SpS) : Prop where
  len : ∀ vs H Out, sp vs H Out → vs.length = ps.length
  run : ∀ (A : Around) (outer : List Env) (s : Shared) (H : Hp) (args : Args) (us : List Value) (vs : List V) (Out : List V → Hp → Prop), Room k A → Env0 P w K mg base A outer s H → BindsTo s fd args (ps.zip us) → Vals vs us → sp vs H Out →
    codeAny (model P w) A (.call (.ref f) args) (fun r s' => match r with | .ok (.ret u) => SMade P w k outer H s Out u s' | _ => False) s

/-- the context of such a def's body -/
abbrev gcx (P : Program) (w : World) (K : PySem.W.Frag) (mg : Str → Option Value) (base : Heap) (N : List Str) (qual : Str) (scope : Scope) (f : Addr) (cd : Value) (A : Around) (outer : List Env) (s : Shared) (H : Hp) (pn : List (Addr × Obj)) : Cx :=
  (gcxOf P w K mg base N qual scope f cd A outer s H E0 pn).nox
theorem gstep_of {P : Program} {w : World} {K : PySem.W.Frag} {mg : Str → Option Value} {base : Heap} {k : Nat} {f : Addr} {name qual : Str} {params : Arguments} {st1 st2 : Stmt} {test e : Expr} {yp ep wp : Pos} {scope : Scope} {dV kV doc pm cdv ct oc : Value} {an od : Option Addr}
    {osl : Array (Option Value)} {N ps : List Str} {sp : SpS} (lk : K.lookup f = some ⟨oc, od, .func (PySem.W.fnOf name qual params [st1, .While test [.Expr (.Yield (some e) yp) ep, st2] [] wp] scope dV kV doc pm an cdv ct), osl⟩) (hcd : PySem.W.codeIn K cdv qual = true) (S : GScope N ps scope)
    (len : ∀ vs H Out, sp vs H Out → vs.length = ps.length)
    (hbody : ∀ (A : Around) (outer : List Env) (s : Shared) (H : Hp) (vs : List V) (Out : List V → Hp → Prop) (pn : List (Addr × Obj)), Room k (A.deeper (envOfC qual scope s.heap.objs.size f cdv)) → sp vs H Out →
      ∃ (t1 t2 : TS) (te : TE) (Good : List V → L2.St → Hp → Prop), PT (gcx P w K mg base N qual scope f cdv A outer s H pn) test (tB (tC (.bl true))) ∧ PS (gcx P w K mg base N qual scope f cdv A outer s H pn) st1 t1 ∧ PE (gcx P w K mg base N qual scope f cdv A outer s H pn) e te ∧ PS (gcx P w K mg base N qual scope f cdv A outer s H pn) st2 t2 ∧
        t1 { nx := Good [], rt := fun _ _ => False } (L2.start N vs) H ∧
        ∀ ys σ H, Good ys σ H → te σ H fun v H1 => (∀ b, H1 b = none → H b = none) ∧ Out (ys ++ [v]) H1 ∧ t2 { nx := Good (ys ++ [v]), rt := fun _ _ => False } σ H1) :
    GStep P w K mg base (k + 1) f (PySem.W.fnOf name qual params [st1, .While test [.Expr (.Yield (some e) yp) ep, st2] [] wp] scope dV kV doc pm an cdv ct) ps sp := by
  refine ⟨len, fun A outer s H args us vs Out hr e0 hb r hsp => ?_⟩
  have hl := len _ _ _ hsp
  have KX : K.In s.heap := e0.mod.kin.keeps fun b o e => (e0.bs b o e).1
  have lim : s.heap.NoLimit := e0.mod.nolimit.keeps fun b o e => (e0.bs b o e).1
  have hkind : ∀ y ∈ ps.zip us, scope.names.lookup y.1 = some .local ∨ (scope.names.lookup y.1 = some .cell ∧ ((cellsFrom (s.heap.objs.size + 1) scope.names []).lookup y.1).isSome = true) := fun ⟨n, v⟩ hy => by
    rcases S.par n (List.of_mem_zip hy).1 with q | q
    · exact .inl q
    · exact .inr ⟨q, PySem.W.cellsFrom_some _ _ _ (.inl q)⟩
  refine codeAny_call_generator hr.depth (KX _ _ lk) rfl S.co S.gen rfl (PySem.W.codeRec_of KX hcd) (hb _ _ _ _ ?_)
  refine wpAny_newFunctionEnv_cells S.kind hkind fun env he s1 x => ?_
  subst he
  have lim1 : s1.heap.NoLimit := lim.keeps x.toInCall.keep
  refine ⟨lim1, ?_⟩
  obtain ⟨h1, tk, es1, hk1⟩ := x.done
  have os1 : s1.os = s.os := by rw [es1]
  have gen1 : s1.gens = s.gens := by rw [es1]
  have lt1 : s.heap.objs.size < s1.heap.objs.size := x.toInCall.ns.lt
  have sz1 : s.heap.objs.size ≤ s1.heap.objs.size := Nat.le_of_lt lt1
  have kp1 : ∀ b o, s.heap.get? b = some o → s1.heap.get? b = some o := x.toInCall.keep
  have main : ∀ (go : Obj) (nm qn : Value) (tk2 : Nat), go.cls = .type "generator" → go.data = .fields #[.int s1.gens.size 0, nm, qn] → go.slots = #[] → (∀ h : Heap, (h.push go).get? h.objs.size = some go) →
      SMade P w (k + 1) outer H s Out (.ref s1.heap.objs.size) { s1 with gens := s1.gens.push (.fresh (.func [st1, .While test [.Expr (.Yield (some e) yp) ep, st2] [] wp] (envOfC qual scope s.heap.objs.size f cdv))), toks := tk2, heap := s1.heap.push go } := by
    intro go nm qn tk2 hgc hgd0 hgs hgp
    have hgen : ∀ h : Heap, h.get? s1.heap.objs.size = some go → h.IsGen s1.heap.objs.size s1.gens.size := fun h e => ⟨go, nm, qn, e, hgc, hgd0, hgs⟩
    have hpushed : (s1.heap.push go).get? s1.heap.objs.size = some go := hgp _
    have hcs : cStatics < s1.heap.objs.size := let ⟨_, hn, _⟩ := lim1; hn.lt
    refine ⟨s1.heap.objs.size, s1.gens.size, _, rfl, sz1, ?_, ?_, hgen _ hpushed, Array.getElem?_push_size .., os1, ?_, lim1.keeps fun b o e => Heap.get?_push_of_some _ e, fun b o e => Heap.get?_push_of_some _ (kp1 b o e), ?_⟩
    · show _ < (s1.heap.push _).objs.size
      rw [Heap.size_push]; exact Nat.lt_succ_self _
    · show _ < (s1.heap.push _).objs.size
      rw [Heap.size_push]; exact Nat.lt_succ_of_lt hcs
    · exact AllBare.push (by rw [gen1]; exact e0.bare) rfl
    intro Aw W Dx s2 hrw hfr hW hD hk2 hth hDo hos hba n
    have e0w : Env0 P w K mg base Aw outer s H := ⟨hfr, e0.mod, e0.bs, e0.bsz, e0.funs, e0.frf, e0.hok, e0.bare⟩
    obtain ⟨t1, t2, te, Good, pt, p1, pe, p2, c1, c2⟩ := hbody Aw outer s H vs Out [(s1.heap.objs.size, go)] (hrw.deeper _) hsp
    have I1 : Inv (gcxOf P w K mg base N qual scope f cdv Aw outer s H E0 []) [] (L2.start N vs) H s1 := inv_startG S hrw.hd e0w hl r x
    have kp2 : ∀ b o, s1.heap.get? b = some o → s2.heap.get? b = some o := fun b o e => hk2 b o (Heap.get?_push_of_some _ e)
    have I2 : Inv (gcxOf P w K mg base N qual scope f cdv Aw outer s H E0 []) [] (L2.start N vs) H s2 :=
      I1.call' (ch := []) (hos.trans os1.symm) (Un.kept kp2) (I1.hok.kept kp2) hba fun b z => by simp at z
    have hWz : ∀ b ∈ W, s1.heap.objs.size < b := fun b hb => by
      have hSx' : (s1.heap.push go).objs.size ≤ b := hW b hb
      rw [Heap.size_push] at hSx'
      exact hSx'
    have hea : s2.heap.get? s1.heap.objs.size = some go := hk2 s1.heap.objs.size go hpushed
    have hgd : ∀ v, go.data ≠ .cell v := fun v q => by rw [hgd0] at q; cases q
    have young : ∀ b, s1.heap.objs.size ≤ b → H b = none ∧ b ≠ s.heap.objs.size ∧ b ∉ frs outer ∧ s.heap.objs.size ≤ b ∧ ∀ y c, (cellsFrom (s.heap.objs.size + 1) scope.names []).lookup y = some c → c ≠ b := fun b hb => by
      refine ⟨I1.hok.fresh hb, Nat.ne_of_gt (Nat.lt_of_lt_of_le lt1 hb), I1.nofs hb, Nat.le_trans sz1 hb, fun y c e z => ?_⟩
      obtain ⟨v, ob, ho, _⟩ := I1.cell y c e
      have := Heap.lt_size ho
      rw [z] at this
      exact absurd (Nat.lt_of_lt_of_le this hb) (Nat.lt_irrefl _)
    have I3 : Inv (gcxOf P w K mg base N qual scope f cdv Aw outer s H E0 [(s1.heap.objs.size, go)]) [] (L2.start N vs) H s2 := Inv.pinnedG I2 fun p hp => by
      rw [List.append_nil] at hp
      rw [List.mem_singleton.mp hp]
      obtain ⟨y1, y2, y3, _, _⟩ := young s1.heap.objs.size (Nat.le_refl _)
      exact ⟨hea, y1, y2, y3, hgd⟩
    have I4 := I3.wish fun _ _ => False
    have wok : WOk (gcx P w K mg base N qual scope f cdv Aw outer s H [(s1.heap.objs.size, go)]) W := by
      refine ⟨fun b hb => ?_, fun b hb => ?_, fun b hb => ?_⟩
      · exact (young b (Nat.le_of_lt (hWz b hb))).2.2.2.1
      · exact (young b (Nat.le_of_lt (hWz b hb))).2.1
      · exact (young b (Nat.le_of_lt (hWz b hb))).2.2.2.2
    have hpn : ∀ p ∈ (gcx P w K mg base N qual scope f cdv Aw outer s H [(s1.heap.objs.size, go)]).pn, p.1 ∉ W := fun p hp hm => by
      have hp : p ∈ [(s1.heap.objs.size, go)] := hp
      rw [List.mem_singleton.mp hp] at hm
      exact absurd (hWz _ hm) (Nat.lt_irrefl _)
    obtain ⟨cD, eD⟩ := hDo
    have R : GRun (gcx P w K mg base N qual scope f cdv Aw outer s H [(s1.heap.objs.size, go)]) W Dx [] (L2.start N vs) H s2 :=
      GRun.of hpn wok I4 (fun b hb => (young b (Nat.le_of_lt (hWz b hb))).1) rfl hba (fun _ _ _ e => e) hth ⟨#[], cD, eD, .nil⟩
    have pinned : ∀ {s' : Shared} {σ' : L2.St} {H' : Hp} {pl : List (Addr × Obj)}, Inv (gcx P w K mg base N qual scope f cdv Aw outer s H [(s1.heap.objs.size, go)]) pl σ' H' s' → s'.heap.IsGen s1.heap.objs.size s1.gens.size := fun {s' σ' H' pl} J =>
      hgen _ (J.pin (s1.heap.objs.size, go) (List.mem_append_left _ (List.mem_singleton.mpr rfl))).1
    have hgF := gen_first (Aw := Aw) (yp := yp) (ep := ep) (wp := wp) hpn rfl wok hD over_func pt p1 pe p2 S.co I4.quiet c2 n s2 (L2.start N vs) H R c1
    refine seg_imp (R := RF) (fun n s₀ r s1' hR => hR) (fun n s₀ v s1' kap kap' hkk hY => ?_) (n + 1) hgF
    obtain ⟨ys, xx, σ', Hg, acc, c, h1, h2, h3, J, h5, h6, h7, h8⟩ := hY
    exact ⟨ys, xx, Hg, acc, c, h1, h2, h3, ⟨J.os, J.bare, J.nolimit, J.base, J.hok, h6, pinned J⟩, h5, h7, fun hn s'' aw => hkk _ _ (h8 hn s'' aw)⟩
  exact main _ _ _ _ rfl rfl rfl fun h => Heap.get?_push_size _ rfl
end Rd
end T_RdGenC
section T_RdLc
set_option Elab.async false
set_option linter.all false
set_option maxRecDepth 100000
set_option maxHeartbeats 4000000
/-! [x for k, x in zip(range(n), g(..))], the generator one that never ends. -/
namespace Rd
open PySem PySem.Spec PyProof.Rows L2 GenW

theorem pushCells_none : ∀ {names : List (Str × NameKind)} {h : Heap}, (∀ y ∈ names, y.2 = .local) → pushCells h names = h
  | [], _, _ => rfl
  | (n, k) :: r, h, hn => by
    have e : k = .local := hn (n, k) List.mem_cons_self
    unfold pushCells
    rw [e]
    exact pushCells_none fun y hy => hn y (List.mem_cons_of_mem _ hy)

/-- from s to s1 nothing but what is in W has changed, and the list at D stands -/
structure Calm (W : List Addr) (D : Addr) (s s1 : Shared) : Prop where
  os : s1.os = s.os
  bare : AllBare s1.gens
  keep : ∀ b o, b ∉ W → s.heap.get? b = some o → s1.heap.get? b = some o
  there : ∀ b ∈ W, ∃ o, s1.heap.get? b = some o ∧ ∀ v, o.data ≠ .cell v
  own : ∀ acc c, s.heap.get? D = some (lstObj acc c) → s1.heap.get? D = some (lstObj acc c)

section
variable {P : Program} {w : World} {outer : List Env} {Hs Hg : Hp} {sc s s1 : Shared} {a : Addr} {g : Nat} {W : List Addr} {z TI TO i1 C D : Addr} {Out : List V → Hp → Prop} {A : Around}
/-- between two turns: ys is out, n turns are left -/
structure LcSt (P : Program) (w : World) (A : Around) (outer : List Env) (Hs : Hp) (sc : Shared) (G : Addr) (g : Nat) (z TI TO i1 C D : Addr) (Out : List V → Hp → Prop) (N n : Nat) (s : Shared) : Prop where
  ex : ∃ (ys : List V) (Hg : Hp) (acc : Array Value) (c : Nat) (gs : GenState) (a b : Value) (m : Str → Option Value), ys.length + n = N ∧ IsZip s.heap z TI TO .none ∧ IsPair s.heap TI (.ref i1) (.ref G) ∧ IsPair s.heap TO a b ∧ IsRangeIter s.heap i1 (ys.length : Int) (n : Int) 1 ∧
    s.heap.get? D = some (lstObj acc c) ∧ Vals ys acc.toList ∧ s.heap.Ns C m ∧ GOut P w outer Hs sc G g [z, TI, TO, i1, C, D] Hg s ∧ (ys ≠ [] → Out ys Hg) ∧ s.gens[g]? = some gs ∧
    (0 < n → ∀ s1, Calm [z, TI, TO, i1, C, D] D s s1 → gs.Goes (model P w) A.in1.in1 RF (YS P w outer Hs sc G g [z, TI, TO, i1, C, D] D Out) n (.send .none) s1)

structure Six (z TI TO i1 C D : Addr) : Prop where
  zTI : z ≠ TI
  zTO : z ≠ TO
  zi : z ≠ i1
  zC : z ≠ C
  zD : z ≠ D
  IO : TI ≠ TO
  Ii : TI ≠ i1
  IC : TI ≠ C
  ID : TI ≠ D
  Oi : TO ≠ i1
  OC : TO ≠ C
  OD : TO ≠ D
  iC : i1 ≠ C
  iD : i1 ≠ D
  CD : C ≠ D
theorem Six.rz (S : Six z TI TO i1 C D) : RzApart z TI TO i1 := ⟨S.zTI.symm, S.zTO.symm, S.zi.symm, S.IO, S.Ii, S.Oi⟩

/-- behind the loop -/
structure LcEnd (P : Program) (w : World) (outer : List Env) (Hs : Hp) (sc : Shared) (G : Addr) (g : Nat) (W : List Addr) (C D : Addr) (Out : List V → Hp → Prop) (N : Nat) (s : Shared) : Prop where
  ex : ∃ (ys : List V) (Hg : Hp) (acc : Array Value) (c : Nat) (m : Str → Option Value), ys.length = N ∧ s.heap.get? D = some (lstObj acc c) ∧ Vals ys acc.toList ∧ s.heap.Ns C m ∧ GOut P w outer Hs sc G g W Hg s ∧ (ys ≠ [] → Out ys Hg)
/-- a turn of the block's loop -/
theorem lc_turn {A : Around} {G : Addr} {N n : Nat} {cenv : Env} {kx lx : Str} {kp lp tp lp2 : Pos} {R : Result → Shared → Prop} {E : Value → Shared → Prop} {cx : Nat} (S : Six z TI TO i1 C D) (hW : ∀ b ∈ [z, TI, TO, i1, C, D], sc.heap.objs.size ≤ b) (hG : G ∉ [z, TI, TO, i1, C, D]) (hcs : cStatics ∉ [z, TI, TO, i1, C, D]) (hh : A.handled = none) (hd : A.depth + 2 < recursionLimit)
    (hk : cenv.kindOf kx = some .local) (hl : cenv.kindOf lx = some .local) (hf : cenv.scope.kind = .function) (hC : cenv.locals = C) (hdb : (lx == ("__debug__" : Str)) = false) (hN : N ≤ 1000)
    (hend : ∀ s', LcEnd P w outer Hs sc G g [z, TI, TO, i1, C, D] C D Out N s' → R (.ok .next) s')
    (h : LcSt P w A outer Hs sc G g z TI TO i1 C D Out N n s) :
    wpAny (model P w) A (pyNext (.ref z)) (fun r s₁ => match r with
      | none => R (.ok .next) s₁
      | some v => wpAny (model P w) A (letOwnedTupleGo (.Tuple [.Name kx kp, .Name lx lp] cx tp) (.ref z) v) (fun _ s₁' => wpAny (model P w) A (assign (.Tuple [.Name kx kp, .Name lx lp] cx tp) cenv v) (fun _ s₂ =>
          wpAny (model P w) A (forIn ([] : List Expr) true fun c r => if r = true then do let ok ← isTrue c cenv (eval c cenv); pure (ForInStep.yield ok) else pure (ForInStep.yield r)) (fun ok s₃ =>
            if ok = true then wpAny (model P w) A (eval (.Name lx lp2) cenv) (fun x s₄ =>
              wpAny (model P w) A (call (.builtin "list.append") [.ref D, x]) (fun _ s₅ => ∃ m, m < n ∧ LcSt P w A outer Hs sc G g z TI TO i1 C D Out N m s₅) E s₄) E s₃
            else ∃ m, m < n ∧ LcSt P w A outer Hs sc G g z TI TO i1 C D Out N m s₃) E s₂) E s₁') E s₁) E s := by
  subst hC
  obtain ⟨ys, Hg, acc, c, gs, va, vb, m, hlen, hz, hTI, hTO, hi, hD, hv, hC0, hO, hOut, hgs, hgo⟩ := h.ex
  cases n with
  | zero =>
    refine pyNext_rg_end hh S.rz hz hTI hTO hi (Int.le_refl _) fun h' hk' => ?_
    refine hend _ ⟨ys, Hg, acc, c, m, hlen, hk' D _ S.zD.symm S.OD.symm S.iD.symm hD, hv, hC0.at' fun o e => hk' _ o S.zC.symm S.OC.symm S.iC.symm e, ?_, hOut⟩
    exact hO.awake hW hG hcs rfl hO.bare fun b o hb e => hk' b o (fun q => hb (by simp [q])) (fun q => hb (by simp [q])) (fun q => hb (by simp [q])) e
  | succ n =>
    refine pyNext_rg (Post := fun s1 v s2 => ∃ s₁ gs', s2 = s₁.setGen g gs' ∧ s2.gens[g]? = some gs' ∧ AllBare s2.gens ∧
      YS P w outer Hs sc G g [z, TI, TO, i1, cenv.locals, D] D Out n (s1.setGen g .running) v s₁ (fun r' s'' => gs'.Goes (model P w) A.in1.in1 RF (YS P w outer Hs sc G g [z, TI, TO, i1, cenv.locals, D] D Out) n r' s'')) S.rz hz hTI hTO hi (by omega) ?_ ?_ ?_
    · intro s1 Q E1 ho hg hdr hk1 hth hq
      have hgs1 : s1.gens[g]? = some gs := by rw [hg]; exact hgs
      have hgl : g < s1.gens.size := (Array.getElem?_eq_some_iff.mp hgs1).1
      have hba1 : AllBare s1.gens := by rw [hg]; exact hO.bare
      have kp1 : ∀ b o, b ∉ [z, TI, TO, i1, cenv.locals, D] → s.heap.get? b = some o → s1.heap.get? b = some o := fun b o hb e => hk1 b o (fun q => hb (by simp only [List.mem_cons, List.not_mem_nil, or_false] at q ⊢; rcases q with q | q | q <;> simp [q])) e
      have o1 := hO.awake hW hG hcs ho hba1 kp1
      have kD : s1.heap.get? D = some (lstObj acc c) := hk1 D _ (by simp only [List.mem_cons, List.not_mem_nil, or_false, not_or]; exact ⟨S.zD.symm, S.OD.symm, S.iD.symm⟩) hD
      have calm : Calm [z, TI, TO, i1, cenv.locals, D] D s (s1.setGen g .running) := by
        refine ⟨ho, allBare_setGen hba1 rfl, kp1, fun b hb => ?_, fun acc' c' e => ?_⟩
        · by_cases hb3 : b ∈ [z, TO, i1]
          · exact hth b hb3
          · simp only [List.mem_cons, List.not_mem_nil, or_false] at hb hb3
            rcases hb with q | q | q | q | q | q
            · exact absurd (.inl q) hb3
            · subst q; exact ⟨_, hk1 b _ (by simp only [List.mem_cons, List.not_mem_nil, or_false]; exact hb3) hTI, fun v q => by cases q⟩
            · exact absurd (.inr (.inl q)) hb3
            · exact absurd (.inr (.inr q)) hb3
            · subst q
              obtain ⟨o, es, ep, e, d, _⟩ := hC0
              exact ⟨o, hk1 _ _ (by simp only [List.mem_cons, List.not_mem_nil, or_false]; exact hb3) e, fun v q => by rw [d] at q; cases q⟩
            · subst q; exact ⟨_, kD, fun v q => by cases q⟩
        · rw [hD] at e
          have e' := Option.some.inj e
          show s1.heap.get? D = _
          rw [kD, e']
      refine wpAny_gsz (n := g + 1) hgl (nextOf_gen (A := A.in1) (n := n + 1) o1.lim (by show A.depth < _; omega) o1.gen hgs1 (hgo (Nat.succ_pos _) _ calm) ?_)
      intro v s₁ gs' hb hY hsz
      refine hq v _ ⟨s₁, gs', rfl, setGen_at ?_, allBare_setGen ?_ hb, hY⟩
      · have q : (s₁.setGen g gs').gens.size = s₁.gens.size := setGen_size _ _ _
        have hsz' : g + 1 ≤ (s₁.setGen g gs').gens.size := hsz
        omega
      · obtain ⟨_, _, _, _, _, _, _, _, o2, _⟩ := hY
        exact o2.bare
    · rintro s1 v s2 ⟨s₁, gs', rfl, _, _, _, _, _, _, _, _, _, _, _, _, h7, _⟩ cc hc o e
      refine h7 cc ?_ o e
      simp only [List.mem_cons, List.not_mem_nil, or_false] at hc ⊢
      rcases hc with q | q | q | q <;> simp [q]
    · rintro s1 x1 v s2 h8 ⟨s₁, gs', rfl, hgs', hba', ys', x, Hg', acc', c', r1, eD', rv, o2, hO2, h7, hgo'⟩ r8 z8 to8 t8 k8 k1
      have z8 : IsZip h8 z TI TO (rawInt s₁.heap.objs.size) := z8
      have t8 : IsPair h8 s₁.heap.objs.size x1 v := t8
      have r8 : IsRangeIter s₁.heap i1 (ys.length + 1) ((n + 1 : Nat) - 1) 1 := r8
      have k8 : ∀ b o, b ≠ z → b ≠ TO → s₁.heap.get? b = some o → h8.get? b = some o := k8
      have hD1 : (s1.setGen g .running).heap.get? D = some (lstObj acc c) := k1 D _ S.zD.symm S.OD.symm S.iD.symm hD
      have e1 : lstObj acc' c' = lstObj acc c := by
        rw [hD1] at eD'
        exact (Option.some.inj eD').symm
      have e2 : acc' = acc := by
        have := congrArg Obj.data e1
        simp only [lstObj, Data.seq.injEq] at this
        exact this.1
      subst e2
      have D1 : s₁.heap.get? D = some (lstObj acc' c) := h7 D (by simp) _ hD1
      have TI1 : IsPair s₁.heap TI (.ref i1) (.ref G) := h7 TI (by simp) _ (k1 TI _ S.zTI.symm S.IO S.Ii hTI)
      have C1 : s₁.heap.Ns cenv.locals m := by
        obtain ⟨o, es, ep, e, d⟩ := hC0
        exact ⟨o, es, ep, h7 _ (by simp) _ (k1 _ _ S.zC.symm S.OC.symm S.iC.symm e), d⟩
      show wpAny _ A (letOwnedTupleGo (.Tuple [.Name kx kp, .Name lx lp] cx tp) (.ref z) (.ref s₁.heap.objs.size)) _ _ { s₁.setGen g gs' with heap := h8 }
      refine wpAny_letOwnedTupleGo_zip (s := { s₁.setGen g gs' with heap := h8 }) z8 fun h9 z9 sb9 => ?_
      have sb9 : Heap.SameBut z h8 h9 := sb9
      have z8lt : z < h8.objs.size := Heap.lt_size z8
      have nez : s₁.heap.objs.size ≠ z := fun q => by
        have t8' : IsPair h8 z x1 v := q ▸ t8
        have := (z8 : h8.get? z = _).symm.trans t8'
        have q2 := congrArg Obj.cls (Option.some.inj this)
        simp at q2
      have t9 : IsPair h9 s₁.heap.objs.size x1 v := sb9.extBut _ _ nez t8
      refine assign_Tuple_tuple (s := { s₁.setGen g gs' with heap := h9 }) hh (items := #[x1, v]) ⟨_, t9, rfl, _, rfl⟩ rfl rfl fun h10 eb10 => ?_
      have eb10 : Heap.ExtBut h9.objs.size h9 h10 := eb10
      have kk10 : ∀ b o, h9.get? b = some o → h10.get? b = some o := fun b o e => eb10 b o (Nat.ne_of_lt (Heap.lt_size e)) e
      have C9 : h9.Ns cenv.locals m := by
        obtain ⟨o, es, ep, e, d⟩ := C1
        exact ⟨o, es, ep, sb9.extBut _ _ S.zC.symm (k8 _ _ S.zC.symm S.OC.symm e), d⟩
      have C10 : h10.Ns cenv.locals m := C9.keeps kk10
      show wpAny _ A (assignInOrder [assign (.Name kx kp) cenv, assign (.Name lx lp) cenv] [x1, v]) _ _ _
      refine assignInOrder_cons (wpAny_assign_Name (wpAny_storeName_local hk C10 (fun h11 ns11 sb11 => assignInOrder_cons (wpAny_assign_Name (wpAny_storeName_local hl ns11 (fun h12 ns12 sb12 => assignInOrder_nil ?_) (by rw [hf]; rfl)))) (by rw [hf]; rfl)))
      have sb11 : Heap.SameBut cenv.locals h10 h11 := sb11
      have sb12 : Heap.SameBut cenv.locals h11 h12 := sb12
      have kk12 : ∀ b o, b ≠ cenv.locals → h9.get? b = some o → h12.get? b = some o := fun b o hb e => sb12.extBut _ _ hb (sb11.extBut _ _ hb (kk10 b o e))
      have D9 : h9.get? D = some (lstObj acc' c) := sb9.extBut _ _ S.zD.symm (k8 _ _ S.zD.symm S.OD.symm D1)
      have hl1 := rv.length
      have hl2 := hv.length
      refine wpAny_tests_nil ?_
      rw [if_pos rfl]
      refine wpAny_Name (wpAny_loadName_local hf hl ns12 (if_pos rfl) ?_) hdb
      have asz : acc'.size ≤ sizeLine := by
        have : (1000 : Nat) ≤ sizeLine := by decide
        have e3 : acc'.size = acc'.toList.length := (Array.length_toList ..).symm
        omega
      refine append_at (hsz := asz) (kk12 D _ S.CD.symm D9) fun h13 sb13 D13 => ⟨n, Nat.lt_succ_self _, ?_⟩
      have sb13 : Heap.SameBut D h12 h13 := sb13
      have kk13 : ∀ b o, b ≠ cenv.locals → b ≠ D → h9.get? b = some o → h13.get? b = some o := fun b o hb hb2 e => sb13.extBut _ _ hb2 (kk12 b o hb e)
      have kW : ∀ b o, b ∉ [z, TI, TO, i1, cenv.locals, D] → s₁.heap.get? b = some o → h13.get? b = some o := fun b o hb e =>
        kk13 b o (fun q => hb (by simp [q])) (fun q => hb (by simp [q])) (sb9.extBut _ _ (fun q => hb (by simp [q])) (k8 _ _ (fun q => hb (by simp [q])) (fun q => hb (by simp [q])) e))
      refine ⟨ys' ++ [x], Hg', acc'.push v, c + 1, gs', x1, v, _, ?_, kk13 _ _ S.zC S.zD z9, kk13 _ _ S.IC S.ID (sb9.extBut _ _ S.zTI.symm (k8 _ _ S.zTI.symm S.IO TI1)), kk13 _ _ S.OC S.OD (sb9.extBut _ _ S.zTO.symm to8), ?_, D13, ?_, ns12.sameBut sb13 S.CD, ?_, fun _ => hO2, hgs', fun hn s'' cm => hgo' hn s'' ⟨?_, cm.bare, fun b o hb e => cm.keep b o hb (kW b o hb e), cm.there, fun acc2 c2 e => ?_⟩⟩
      · rw [List.length_append]
        show ys'.length + 1 + n = N
        omega
      · have e4 : ((ys' ++ [x]).length : Int) = (ys.length : Int) + 1 := by
          rw [List.length_append]
          show ((ys'.length + 1 : Nat) : Int) = _
          omega
        have e5 : ((n + 1 : Nat) : Int) - 1 = (n : Int) := by omega
        rw [e5] at r8
        rw [e4]
        exact kk13 _ _ S.iC S.iD (sb9.extBut _ _ S.zi.symm (k8 _ _ S.zi.symm S.Oi.symm r8))
      · rw [Array.toList_push]
        exact rv.append (.cons r1 .nil)
      · exact o2.awake hW hG hcs rfl hba' kW
      · exact cm.os
      · rw [D1] at e
        have e' := congrArg Obj.data (Option.some.inj e)
        simp only [lstObj, Data.seq.injEq] at e'
        rw [← e'.1]
        exact ⟨_, cm.own _ _ D13⟩
end
end Rd
end T_RdLc
section T_RdLcE
set_option Elab.async false
set_option linter.all false
set_option maxRecDepth 100000
set_option maxHeartbeats 4000000
/-! [x for k, x in zip(range(n), g(..))] as an expression. -/
namespace Rd
open PySem PySem.Spec PyProof.Rows L2 GenW

def tZG (tb : TE) (ta : TA) (sp : SpS) : TE := fun σ H Q => tb σ H fun x H1 => ∃ n : Nat, x = .int n ∧ 1 ≤ n ∧ n ≤ 1000 ∧ ta σ H1 fun vs H2 => ∃ Out, sp vs H2 Out ∧ ∀ ys Hg p, ys.length = n → Out ys Hg → Hg p = none → Q (.ref p) (upd Hg p (.lst ys))

theorem pe_lczg {X : Cx} {kx lx gx : Str} {kp lp lp2 tp zp rp rpos zpos gp gpos pos : Pos} {cx : Nat} {eb e : Expr} {es : List Expr} {scope : Scope} {k : Nat} {f : Addr} {fd : FuncData} {ps : List Str} {sp : SpS} {tb : TE} {ta : TA}
    (hb : PE X eb tb) (ha : PA X (e :: es) ta) (F : GStep X.prog X.w X.K X.mg X.base k f fd ps sp) (hr : Room (k + 1) X.A) (hbi : Binds X.K fd ps []) (hgz : Gl X "zip") (hmz : X.mg "zip" = none) (hgr : Gl X "range") (hmr : X.mg "range" = none) (hgg : Gl X gx) (hmg : X.mg gx = some (.ref f)) (hkp : PySem.W.keepIn X.K (.ref f) = true)
    (hkind : scope.kind = .function) (hloc : scope.names.all (fun y => y.2 == .local && scope.names.lookup y.1 == some .local) = true) (hkx : scope.names.lookup kx = some .local) (hlx : scope.names.lookup lx = some .local)
    (hdb : (lx == ("__debug__" : Str)) = false := by decide) (hdg : (gx == ("__debug__" : Str)) = false := by decide)
    (hez : starEach [.Call (.Name "range" rp) [eb] [] rpos, .Call (.Name gx gp) (e :: es) [] gpos] X.env = (false, eval (.Call (.Name "range" rp) [eb] [] rpos) X.env) :: starEach [.Call (.Name gx gp) (e :: es) [] gpos] X.env := by rfl)
    (hez2 : starEach [.Call (.Name gx gp) (e :: es) [] gpos] X.env = (false, eval (.Call (.Name gx gp) (e :: es) [] gpos) X.env) :: starEach [] X.env := by rfl)
    (her : starEach [eb] X.env = [(false, eval eb X.env)] := by rfl)
    (heg : starEach (e :: es) X.env = (false, eval e X.env) :: starEach es X.env := by rfl) (hpl : (backTo gpos (starEach es X.env)).any (·.1) = false := by rfl) :
    PE X (.ListComp (.Name lx lp2) [⟨.Tuple [.Name kx kp, .Name lx lp] cx tp, .Call (.Name "zip" zp) [.Call (.Name "range" rp) [eb] [] rpos, .Call (.Name gx gp) (e :: es) [] gpos] [] zpos, [], 0⟩] scope pos) (tZG tb ta sp) := by
  have hl1 : ∀ y ∈ scope.names, y.2 = .local ∧ scope.names.lookup y.1 = some .local := fun y hy => by
    have := List.all_eq_true.mp hloc y hy
    simpa using this
  refine ⟨fun pins s σ H Q I h => ?_⟩
  rw [eval_ListComp]
  refine wpAny_comprehension_free (use := none) rfl (fun x => rfl) (closure_ok fun y hy e => by rw [(hl1 y hy).1] at e; cases e) hkind (fun y hy _ => (hl1 y hy).2) ?_
  refine wpAny_Call_Name_kw (ld_blt I hgz hmz boot_zip ?_)
  refine PyProof.Rows.callWith_type1 ?_ hez (by rw [hez2]; rfl)
  rw [hez]
  show wpAny _ _ (spliced ((false, eval (.Call (.Name "range" rp) [eb] [] rpos) X.env) :: backTo zpos (starEach [.Call (.Name gx gp) (e :: es) [] gpos] X.env))) _ _ s
  refine Calls.spliced_cons ?_
  refine Call_ (ld_blt I hgr hmr boot_range (PyProof.Rows.callWith_type1 ?_ her rfl))
  rw [her]
  refine Calls.spliced_cons (thn (hb.run pins s σ H _ I h) fun u s1 ⟨x, H1, I1, rx, n, ex, hn1, hn2, h1⟩ => Calls.spliced_nil ?_)
  subst ex
  obtain ⟨tn, rfl⟩ := rx
  refine call_range_1 ?_
  -- the range is pinned
  have hR1 := IsRange.new s1.heap 0 n 1 s1.toks tn (s1.toks + 1)
  generalize hs2 : ({ s1 with heap := s1.heap.push { cls := .type "range", data := .fields #[.int 0 s1.toks, .int n tn, .int 1 (s1.toks + 1)] }, toks := s1.toks + 1 + 1 } : Shared) = s2
  have I2 := ClX.pin_new (t' := s1.toks + 1 + 1) I1 (fun b o eb => Heap.get?_push_of_some _ eb) (Nat.le_refl _) hR1 (fun v q => by cases q)
  rw [hs2] at I2
  generalize hRg : s1.heap.objs.size = Rg at I2
  rw [hez2]
  show wpAny _ _ (spliced ((false, eval (.Call (.Name gx gp) (e :: es) [] gpos) X.env) :: backTo zpos (starEach [] X.env))) _ _ s2
  refine Calls.spliced_cons ?_
  refine wpAny_Call_Name_kw (ld_glob I2 hgg hmg ?_ hdg)
  refine PySem.W.callWith_K (h₀ := X.base) I2.ok.mod.kin hkp (thn (ha.run gpos _ s2 σ H1 _ I2 h1) fun us s3 ⟨vs, H2, I3, r, Out, hsp, hcont⟩ => ⟨I3.kIn, ?_⟩) heg hpl
  have hl2 : (us ++ ([] : List Value)).length = ps.length := by rw [List.append_nil, ← r.length]; exact F.len _ _ _ hsp
  have hbT := hbi s3 us I3.kIn hl2
  rw [List.append_nil] at hbT
  refine wpAny_call (codeAny_mono (F.run X.A X.stack s3 H2 ⟨us, []⟩ us vs Out (hr.mono (Nat.le_succ _)) I3.env0 hbT r hsp) fun r s' hq => ?_)
  cases r with
  | error e => exact hq.elim
  | ok fl =>
  cases fl with
  | next => exact hq.elim
  | brk => exact hq.elim
  | cont => exact hq.elim
  | ret u =>
  obtain ⟨G, g, c, rfl, ha1, ha2, hc2, hgen, hgs, hos, hba, hlim, hkeep, wake⟩ := hq
  refine Calls.spliced_nil ?_
  have hR3 : IsRange s'.heap Rg 0 n 1 s1.toks tn (s1.toks + 1) := hkeep _ _ (ClX.pin_at I3)
  refine call_zip_rg hR3 hgen (by omega) (Int.lt_of_le_of_lt (by omega : (n : Int) ≤ 1000) (by decide)) fun h0 hz hTI hTO hi hsz hk0 => ?_
  refine wpAny_pyIter_zip (s := { s' with heap := h0 }) hz ?_
  refine wpAny_newObj_type (newEnv_comp ?_) (by show 0 ≤ sizeLine; decide)
  generalize hS : s'.heap.objs.size = S at *
  rw [pushCells_none fun y hy => (hl1 y hy).1]
  -- the list and the block's frame
  have eD0 : (h0.push { cls := .type "list", data := .seq ([] : List Value).toArray }).get? (S + 4) = some (lstObj #[] 0) := by rw [← hsz]; exact Heap.get?_push_size _ rfl
  have zD : (h0.push { cls := .type "list", data := .seq ([] : List Value).toArray }).objs.size = S + 5 := by rw [Heap.size_push, hsz]
  show codeAny _ _ (.compStart _ 0 (.ref (S + 3)) (.ref h0.objs.size) (compEnvC scope (cellsFrom ((h0.push { cls := .type "list", data := .seq ([] : List Value).toArray }).objs.size + 1) scope.names (cloFrom X.env.cells scope.names [])) (h0.push { cls := .type "list", data := .seq ([] : List Value).toArray }).objs.size X.env)) (compPost (model X.prog X.w) X.A X.xe none (fun u s' => EP X pins σ Q u s') (.ref h0.objs.size) (h0.push { cls := .type "list", data := .seq ([] : List Value).toArray }).objs.size)
    { s' with heap := (h0.push { cls := .type "list", data := .seq ([] : List Value).toArray }).push { cls := .type "dict", data := .dict #[] } }
  have eC0 : Heap.Ns ((h0.push { cls := .type "list", data := .seq ([] : List Value).toArray }).push { cls := .type "dict", data := .dict #[] }) (S + 5) (fun _ => none) := by
    have := Heap.Ns.new (h0.push { cls := .type "list", data := .seq ([] : List Value).toArray })
    rw [zD] at this
    exact this _
  have kL : ∀ b o, h0.get? b = some o → ((h0.push { cls := .type "list", data := .seq ([] : List Value).toArray }).push { cls := .type "dict", data := .dict #[] }).get? b = some o := fun b o e => Heap.get?_push_of_some _ (Heap.get?_push_of_some _ e)
  have eD : ((h0.push { cls := .type "list", data := .seq ([] : List Value).toArray }).push { cls := .type "dict", data := .dict #[] }).get? (S + 4) = some (lstObj #[] 0) := Heap.get?_push_of_some _ eD0
  rw [zD, hsz]
  generalize (cellsFrom (S + 5 + 1) scope.names (cloFrom X.env.cells scope.names [])) = cl
  generalize hhL : (h0.push { cls := .type "list", data := .seq ([] : List Value).toArray }).push { cls := .type "dict", data := .dict #[] } = hL at *
  have kS : ∀ b o, s'.heap.get? b = some o → hL.get? b = some o := fun b o e => kL b o (hk0 b o e)
  have six : Six (S + 3) (S + 1) (S + 2) S (S + 5) (S + 4) := by constructor <;> (show (_ : Nat) ≠ _; omega)
  have hWm : ∀ b ∈ [S + 3, S + 1, S + 2, S, S + 5, S + 4], S ≤ b := fun b hb => by
    simp only [List.mem_cons, List.not_mem_nil, or_false] at hb
    rcases hb with q | q | q | q | q | q <;> omega
  have s3S : s3.heap.objs.size ≤ S := Nat.le_trans ha1 (Nat.le_of_lt ha2)
  have hW : ∀ b ∈ [S + 3, S + 1, S + 2, S, S + 5, S + 4], s3.heap.objs.size ≤ b := fun b hb => Nat.le_trans s3S (hWm b hb)
  have hG : G ∉ [S + 3, S + 1, S + 2, S, S + 5, S + 4] := fun hb => absurd (Nat.lt_of_lt_of_le ha2 (hWm _ hb)) (Nat.lt_irrefl _)
  have hcs : cStatics ∉ [S + 3, S + 1, S + 2, S, S + 5, S + 4] := fun hb => absurd (Nat.lt_of_lt_of_le hc2 (hWm _ hb)) (Nat.lt_irrefl _)
  have kS3 : ∀ b o, s3.heap.get? b = some o → hL.get? b = some o := fun b o e => kS b o (hkeep b o e)
  have out0 : GOut X.prog X.w X.stack H2 s3 G g [S + 3, S + 1, S + 2, S, S + 5, S + 4] H2 { s' with heap := hL } :=
    ⟨hos, hba, hlim.keeps kS, Un.kept kS3, I3.hok.kept kS3, fun b hb => I3.hok.fresh (hW b hb), hgen.keeps kS⟩
  have st0 : LcSt X.prog X.w X.A X.stack H2 s3 G g (S + 3) (S + 1) (S + 2) S (S + 5) (S + 4) Out n n { s' with heap := hL } := by
    refine ⟨[], H2, #[], 0, _, .none, .none, _, by simp, kL _ _ hz, kL _ _ hTI, kL _ _ hTO, kL _ _ hi, eD, .nil, eC0, out0, fun q => absurd rfl q, hgs, fun hn s1 cm => ⟨rfl, ?_⟩⟩
    obtain ⟨n', rfl⟩ : ∃ n', n = n' + 1 := ⟨n - 1, by omega⟩
    refine wake X.A.in1.in1 _ (S + 4) s1 ⟨hr.hd, ?_, ?_⟩ I3.ok.frames hWm (by simp) (fun b o e => cm.keep b o (fun hb => ?_) (kS b o e)) cm.there ⟨0, cm.own _ _ eD⟩ (cm.os.trans hos) cm.bare n'
    · have := hr.dp; show X.A.depth + 3 * k + 5 < _; omega
    · have := hr.un; show X.A.units + 1 + 1 + 16 * k + 200 < _; omega
    · have q := Heap.lt_size e
      rw [hS] at q
      exact absurd (Nat.lt_of_lt_of_le q (hWm _ hb)) (Nat.lt_irrefl _)
  have kr : ∀ {x : Str}, scope.names.lookup x = some .local → (compEnvC scope cl (S + 5) X.env).kindOf x = some .local := fun {x} hx => lookup_relabel_local hx
  have loop : codeAny (model X.prog X.w) X.A (.compLoop (.ListComp (.Name lx lp2) [⟨.Tuple [.Name kx kp, .Name lx lp] cx tp, .Call (.Name "zip" zp) [.Call (.Name "range" rp) [eb] [] rpos, .Call (.Name gx gp) (e :: es) [] gpos] [] zpos, [], 0⟩] scope pos) 0 (.ref (S + 3)) (.ref (S + 4)) (compEnvC scope cl (S + 5) X.env))
      (compPost (model X.prog X.w) X.A X.xe none (fun u s' => EP X pins σ Q u s') (.ref (S + 4)) (S + 5)) { s' with heap := hL } := by
    refine compLoop_any (fun m s => LcSt X.prog X.w X.A X.stack H2 s3 G g (S + 3) (S + 1) (S + 2) S (S + 5) (S + 4) Out n m s) (fun m s5 hI => ?_) n st0
    refine lc_turn six hW hG hcs hr.hd (by have := hr.dp; omega) (kr hkx) (kr hlx) hkind rfl hdb hn2 (fun s6 he => ?_) hI
    obtain ⟨ys, Hg, acc, cc, m, e1, e2, e3, e4, e5, e6⟩ := he.ex
    refine ⟨m, e4, fun h7 sb7 => ?_⟩
    have o7 : GOut X.prog X.w X.stack H2 s3 G g [S + 3, S + 1, S + 2, S, S + 5, S + 4] Hg { s6 with heap := h7 } := e5.awake hW hG hcs rfl e5.bare fun b o hb e => sb7.extBut _ _ (fun q => hb (by simp [q])) e
    have D7 : h7.get? (S + 4) = some (lstObj acc cc) := sb7.extBut _ _ (by show (S + 4 : Nat) ≠ S + 5; omega) e2
    have J := Inv.drained (S := S + 4) (ex := []) I3 (hW _ (by simp)) (Nat.le_trans (by omega : ys.length ≤ 1000) (by decide)) D7 e3 ExOk.nil o7.os o7.bare o7.un o7.hok (o7.free _ (by simp))
    exact ⟨.ref (S + 4), _, ClX.unpin J, rfl, hcont ys Hg _ e1 (e6 fun q => by subst q; simp at e1; omega) (o7.free _ (by simp))⟩
  exact codeAny_compStart_list loop (wpAny_pyIter_zip (s := { s' with heap := hL }) (kL _ _ hz) loop)
end Rd
end T_RdLcE
section T_RdMisc
set_option Elab.async false
set_option linter.all false
set_option maxRecDepth 100000
set_option maxHeartbeats 4000000
/-! One of two rules; name = {k: v for ..}; dicts of ints compared with an open answer; levels as dicts. -/
namespace Rd
open PySem PySem.Spec PyProof.Rows L2
section
variable {X : Cx}
def tOr (t1 t2 : TE) : TE := fun σ H Q => t1 σ H Q ∨ t2 σ H Q
theorem pe_or2 {e : Expr} {t1 t2 : TE} (h1 : PE X e t1) (h2 : PE X e t2) : PE X e (tOr t1 t2) :=
  ⟨fun pins s σ H Q I h => h.elim (h1.run pins s σ H Q I) (h2.run pins s σ H Q I)⟩

/-- name = {..} on one line, the name a local -/
theorem ps_setDc {i : Nat} {y : Str} {py : Pos} {kx vx tg iter : Expr} {ifs : List Expr} {scope : Scope} {own : List (Str × Nat)} {pos spos : Pos} {wi : TI} {g : TG} {tt : TT} {tk tv : TE} (hc : X.calm = true) (hN : X.N.Nodup) (hy : X.N[i]? = some y) (hyl : X.env.scope.names.lookup y = some .local)
    (hsw : swapsWith (.DictComp kx vx [⟨tg, iter, ifs, 0⟩] scope pos) (some (.Name y py)) spos.line X.env = pure true) (hi : PI X tg iter wi) (ok : BlkOk X.N X.env.scope scope own)
    (hg : ∀ (s : Shared) (H : Hp) (C : Addr) (cl : List (Str × Addr)) (fp : List Addr), PG (X.blk s H scope (compEnvC scope cl C X.env) fp) tg g) (ht : ∀ (s : Shared) (H : Hp) (C : Addr) (cl : List (Str × Addr)) (fp : List Addr), PTs (X.blk s H scope (compEnvC scope cl C X.env) fp) ifs tt)
    (hk : ∀ (s : Shared) (H : Hp) (C : Addr) (cl : List (Str × Addr)) (fp : List Addr), PE (X.blk s H scope (compEnvC scope cl C X.env) fp) kx tk)
    (he : ∀ (s : Shared) (H : Hp) (C : Addr) (cl : List (Str × Addr)) (fp : List Addr), PE (X.blk s H scope (compEnvC scope cl C X.env) fp) vx tv) (hs : ∀ x, foldedSetIterable iter X.env x = pure x := by intro _; rfl) :
    PS X (.Assign [.Name y py] (.DictComp kx vx [⟨tg, iter, ifs, 0⟩] scope pos) spos) (tAsg (tDc wi g tt tk tv (own.map (·.2))) (gName i)) := by
  refine ⟨fun pins s σ H D I h => ?_⟩
  rw [exec_Assign_Name_used _ _ _ _ hsw]
  refine wpAny_bind (wpAny_standAt (wpAny_bind ?_))
  show wpAny _ X.A (do let _ ← comprehension (.DictComp kx vx [⟨tg, iter, ifs, 0⟩] scope pos) scope X.env (firstIterPos [⟨tg, iter, ifs, 0⟩] pos) newDict false (eval iter X.env) (some (assign (.Name y py) X.env))) _ _ s
  have h : tDc wi g tt tk tv (own.map (·.2)) σ H (fun x H1 => gName i x σ H1 D.nx) := h
  refine wpAny_bind (thn (dc_core (Qf := fun _ s' => SP X pins D .next s') hc hN I hi ok hg ht hk he hs h fun L C s' m H' I' q hn f => ?_) fun _ s' hq => wpAny_pure (wpAny_pure hq))
  show wpAny _ _ (assign (.Name y py) X.env (.ref L)) _ _ _
  refine wpAny_assign_Name (store_ok2 (v := V.ref L) I' hN hy (.inl hyl) rfl (fun s2 I2 ⟨a, sb, ha⟩ => ?_) (.inr hyl))
  obtain ⟨f0, f1, f2, f3, f4, f5⟩ := f
  have haC : C ≠ a := by
    rcases ha with z | z
    · rw [z]; exact f1
    · exact fun e => f4 y a z e.symm
  refine ⟨m, hn.sameBut sb haC, fun h3 sb3 => ?_⟩
  exact ⟨_, H', I2.turned (t' := s2.toks) (fun b o hb e => (sb3.2 b hb).trans e) f0 f1 f3 f4 f5, q⟩
theorem sw_trueD {kx vx : Expr} {gs : List Comprehension} {scope : Scope} {pos py : Pos} {y : Str} {l : Nat} {env : Env} (hk : env.scope.kind = .function) (hy : env.scope.names.lookup y = some .local) (hl : (py.line == pos.line) = true)
    (ha : (scope.names.any fun (n, k) => n == y && (k == .local || k == .cell)) = false) : swapsWith (.DictComp kx vx gs scope pos) (some (.Name y py)) l env = pure true := by
  have ky : env.kindOf y = some .local := hy
  have hb : env.blockKind = .function := by unfold Env.blockKind; rw [hk]; rfl
  unfold swapsWith
  simp only [hb, ky, ha, Expr.pos, hl]
  rfl
end

/-! ### a level as a dict -/
abbrev Lev := Str → Int
def kvOf (cs : List Str) (L : Lev) : List (Key × V) := cs.map fun c => (Sum.inr c, V.int (L c))
def put (L : Lev) (g : Str) (v : Int) : Lev := fun c => if c = g then v else L c
theorem kvOf_len (cs : List Str) (L : Lev) : (kvOf cs L).length = cs.length := List.length_map ..
theorem kvOf_val {cs : List Str} {L : Lev} {c : Str} (h : c ∈ cs) : valV (kvOf cs L) (Sum.inr c : Key) = some (.int (L c)) := by
  induction cs with
  | nil => cases h
  | cons d cs ih =>
    by_cases e : d = c
    · subst e; exact valV_pos rfl
    · have e' : ¬ ((Sum.inr d : Key) = Sum.inr c) := fun z => e (Sum.inr.inj z)
      rw [kvOf, List.map_cons, valV_neg (p := ((Sum.inr d : Key), V.int (L d))) e']
      rcases List.mem_cons.mp h with z | z
      · exact absurd z.symm e
      · exact ih z
theorem kvOf_val_none {cs : List Str} {L : Lev} {c : Str} (h : c ∉ cs) : valV (kvOf cs L) (Sum.inr c : Key) = none := by
  induction cs with
  | nil => rfl
  | cons d cs ih =>
    have e : ¬ d = c := fun z => h (z ▸ List.mem_cons_self)
    have e' : ¬ ((Sum.inr d : Key) = Sum.inr c) := fun z => e (Sum.inr.inj z)
    rw [kvOf, List.map_cons, valV_neg (p := ((Sum.inr d : Key), V.int (L d))) e']
    exact ih fun z => h (List.mem_cons_of_mem _ z)
theorem kvOf_put {cs : List Str} {L : Lev} {g : Str} {v : Int} (h : g ∈ cs) : putK (kvOf cs L) (Sum.inr g) (.int v) = kvOf cs (put L g v) := by
  unfold putK
  have a : ((kvOf cs L).any fun kv => decide (kv.1 = (Sum.inr g : Key))) = true := by rw [valV_any, kvOf_val h]; rfl
  rw [if_pos a]
  unfold kvOf
  rw [List.map_map]
  refine List.map_congr_left fun c _ => ?_
  show (if (Sum.inr c : Key) = Sum.inr g then ((Sum.inr c : Key), V.int v) else ((Sum.inr c : Key), V.int (L c))) = ((Sum.inr c : Key), V.int (put L g v c))
  by_cases e : c = g
  · subst e
    rw [if_pos rfl]
    unfold put
    rw [if_pos rfl]
  · rw [if_neg fun z => e (Sum.inr.inj z)]
    unfold put
    rw [if_neg e]
theorem kvOf_snoc {cs : List Str} {L : Lev} {c : Str} (h : c ∉ cs) : putK (kvOf cs L) (Sum.inr c) (.int (L c)) = kvOf (cs ++ [c]) L := by
  rw [putK_new _ (kvOf_val_none h)]
  unfold kvOf
  rw [List.map_append]
  rfl
section
variable {X : Cx}
/-- the same keys in the same order, ints -/
theorem hits_lev {A : Around} {s : Shared} {cs0 : List Str} {M : Lev} {vb : List (Key × Value)} (rb : KV (kvOf cs0 M) vb) {L : Lev} : ∀ {cs : List Str} {va : List (Key × Value)}, KV (kvOf cs L) va → (∀ c ∈ cs, c ∈ cs0) →
    PySem.W.KeqHits A s vb va (cs.all fun c => decide (L c = M c))
  | [], va, ra, _ => by
    unfold KV at ra
    cases ra
    exact .nil
  | c :: cs, va, ra, hs => by
    unfold KV kvOf at ra
    cases ra with
    | @cons p q ps qs h t =>
      obtain ⟨h1, h2⟩ := h
      obtain ⟨k, v⟩ := q
      have h1 : (Sum.inr c : Key) = k := h1
      subst h1
      obtain ⟨t1, rfl⟩ := (show ∃ t, v = Value.int (L c) t from h2)
      have rr : RelO (some (V.int (M c))) (valueAt vb (Sum.inr c : Key)) := by rw [← kvOf_val (L := M) (hs c List.mem_cons_self)]; exact rb.val _
      obtain ⟨y, hy, ry⟩ := rr.some_of
      obtain ⟨t2, rfl⟩ := (show ∃ t, y = Value.int (M c) t from ry)
      have z := SeqAt.EqAt.int_int (A := A) (s := s) (L c) t1 (M c) t2
      have e : (L c == M c) = decide (L c = M c) := by rw [Bool.eq_iff_iff]; simp
      rw [e] at z
      exact .hit hy z (hits_lev rb t fun c' hc' => hs c' (List.mem_cons_of_mem _ hc'))
def rEqL (b : Bool → Bool) : R2 := fun x y H Q => ∃ a a' cs L M, x = .ref a ∧ y = .ref a' ∧ H a = some (.dK (kvOf cs L)) ∧ H a' = some (.dK (kvOf cs M)) ∧ Q (.bl (b (cs.all fun c => decide (L c = M c)))) H
theorem op_eq_lev (hu : X.A.units < cLine) : OpR X (compareOp .Eq) (rEqL id) := by
  intro pins s σ H x y v u Q I rx ry h
  obtain ⟨a, b, cs, L, M, rfl, rfl, ea, eb, q⟩ := h
  obtain rfl : v = Value.ref a := rx
  obtain rfl : u = Value.ref b := ry
  obtain ⟨_, ya, va, ra, da⟩ := (show ObjOk X.prog X.w H s.heap a (.dK (kvOf cs L)) from I.hok a _ ea)
  obtain ⟨_, yb, vb, rb, db⟩ := (show ObjOk X.prog X.w H s.heap b (.dK (kvOf cs M)) from I.hok b _ eb)
  have hl : va.length = vb.length := by rw [← ra.length, ← rb.length, kvOf_len, kvOf_len]
  exact PySem.W.keq_eq (knd := mixKind X.prog X.w) ya yb da db hu (fun _ => hits_lev rb ra fun _ h => h) (fin_bl I q (by simp [hl]))
theorem op_ne_lev (hu : X.A.units < cLine) : OpR X (compareOp .NotEq) (rEqL not) := by
  intro pins s σ H x y v u Q I rx ry h
  obtain ⟨a, b, cs, L, M, rfl, rfl, ea, eb, q⟩ := h
  obtain rfl : v = Value.ref a := rx
  obtain rfl : u = Value.ref b := ry
  obtain ⟨_, ya, va, ra, da⟩ := (show ObjOk X.prog X.w H s.heap a (.dK (kvOf cs L)) from I.hok a _ ea)
  obtain ⟨_, yb, vb, rb, db⟩ := (show ObjOk X.prog X.w H s.heap b (.dK (kvOf cs M)) from I.hok b _ eb)
  have hl : va.length = vb.length := by rw [← ra.length, ← rb.length, kvOf_len, kvOf_len]
  exact PySem.W.keq_ne (knd := mixKind X.prog X.w) ya yb da db hu (fun _ => hits_lev rb ra fun _ h => h) (fin_bl I q (by simp [hl]))
end
end Rd
end T_RdMisc
section T_W0
set_option Elab.async false
set_option linter.all false
set_option maxRecDepth 100000
set_option maxHeartbeats 4000000
/-! The text by places, the facts, the bundles. -/
namespace Rd
open PySem PySem.Spec PyProof.Rows L2
def top (i : Nat) : Stmt := PySem.Challenge.pw_rounddown_k63_whole_levels_add_up.main.body.getD i (.Pass ⟨0, 0, 0, 0⟩)
/-- a def of the top, a def of a class -/
abbrev FD (K : PySem.W.Frag) (x : Str) (st : Stmt) (f : Addr) (fd : FuncData) : Prop := FunD K x x (defArgs st) (defBody st) (defScope st) [] [] f fd
abbrev FC (K : PySem.W.Frag) (x q : Str) (st : Stmt) (f : Addr) (fd : FuncData) : Prop := FunD K x q (defArgs st) (defBody st) (defScope st) [] [] f fd

theorem bt_isinstance : bootBuiltins "isinstance" = some (.builtin "isinstance") := by decide +kernel
theorem bt_len : bootBuiltins "len" = some (.builtin "len") := by decide +kernel
theorem bt_all : bootBuiltins "all" = some (.builtin "all") := by decide +kernel
theorem bt_sorted : bootBuiltins "sorted" = some (.builtin "sorted") := by decide +kernel
theorem bt_max : bootBuiltins "max" = some (.builtin "max") := by decide +kernel
theorem bt_min : bootBuiltins "min" = some (.builtin "min") := by decide +kernel
theorem bt_abs : bootBuiltins "abs" = some (.builtin "abs") := by decide +kernel
theorem bt_int : bootBuiltins "int" = some (.type "int") := by decide +kernel
theorem bt_str : bootBuiltins "str" = some (.type "str") := by decide +kernel
theorem bt_bool : bootBuiltins "bool" = some (.type "bool") := by decide +kernel
theorem bt_list : bootBuiltins "list" = some (.type "list") := by decide +kernel
theorem bt_tuple : bootBuiltins "tuple" = some (.type "tuple") := by decide +kernel
theorem bt_dict : bootBuiltins "dict" = some (.type "dict") := by decide +kernel
/-- a def called with keywords, all of them given -/
structure CalK (P : Program) (w : World) (K : PySem.W.Frag) (mg : Str → Option Value) (base : Heap) (k : Nat) (x : Str) (n : Nat) (ks : List Str) (sp : Sp) : Prop where
  ex : ∃ (f : Addr) (fd : FuncData) (ps : List Str), FnOk P w K mg base CX0 k f fd ps sp ∧ mg x = some (.ref f) ∧ PySem.W.keepIn K (.ref f) = true ∧ KBn K fd ps n ks (fun us ws => us ++ ws) (fun vs zs => vs ++ zs)
theorem kbn_all {K : PySem.W.Frag} {fd : FuncData} {ps ks : List Str} {n : Nat} (h : ∀ us ws : List Value, us.length = n → ws.length = ks.length → bindArgs fd ⟨us, ks.zip ws⟩ = pure (ps.zip (us ++ ws))) : KBn K fd ps n ks (fun us ws => us ++ ws) (fun vs zs => vs ++ zs) :=
  ⟨fun s us ws _ h1 h2 => .of_eq (h us ws h1 h2), fun r1 r2 => r1.append r2⟩
section
variable {X : Cx} {k j n : Nat} {x : Str} {ks : List Str} {sp : Sp} {p pos : Pos} {e : Expr} {es : List Expr} {kws : List Keyword} {t tk : TA}
theorem pe_ck (c : CalK X.prog X.w X.K X.mg X.base k x n ks sp) (hr : Room j X.A) (hk : k ≤ j) (hg : Gl X x) (ha : PA X (e :: es) t) (hkw : PK X kws tk)
    (hall : (backToKw pos (keywordEach kws X.env)).all (·.1.isSome) = true := by rfl) (hks : (backToKw pos (keywordEach kws X.env)).filterMap (·.1) = ks := by rfl)
    (hdb : (x == ("__debug__" : Str)) = false := by decide) (he : starEach (e :: es) X.env = (false, eval e X.env) :: starEach es X.env := by rfl)
    (hpl : ((backTo pos (starEach (e :: es) X.env)).any (·.1) || (backToKw pos (keywordEach kws X.env)).any (·.1.isNone)) = false := by rfl) :
    PE X (.Call (.Name x p) (e :: es) kws pos) (tCallN n ks.length sp (fun vs zs => vs ++ zs) E0 t tk) := by
  obtain ⟨f, fd, ps, F, hm, kp, b⟩ := c.ex
  exact pe_callN F (hr.mono hk) hg hm kp b pass0 ha hkw hall hks hdb he hpl
end
/-- C.f, a constant of the class -/
theorem pe_ccv {X : Cx} {K : PySem.W.Frag} (hK : X.K = K) {x f : Str} {p pos : Pos} {C : Addr} (hg : Gl X x) (hm : X.mg x = some (.ref C)) (hd : (x == ("__debug__" : Str)) = false := by decide) (hb : attributeBase (.Name x p) f X.env (eval (.Name x p) X.env) = eval (.Name x p) X.env := by rfl) :
    PE X (.Attribute (.Name x p) f pos) (ClX.tCVal K (tC (.ref C)) f) := hK ▸ ClX.pe_cval (pe_glob hg hm rfl hd) hb
/-- rules whose readings name the frame's written part: for blocks -/
theorem pe_fldK {X : Cx} {K : PySem.W.Frag} (hK : X.K = K) {e : Expr} {f : Str} {pos : Pos} {ta : TE} (he : PE X e ta) (hb : attributeBase e f X.env (eval e X.env) = eval e X.env) : PE X (.Attribute e f pos) (tFld K ta f) := hK ▸ pe_fld he hb
theorem ix_listK {X : Cx} {K : PySem.W.Frag} (hK : X.K = K) : IxR X (rIxL K) := hK ▸ ix_list
theorem ix_tupK {X : Cx} {K : PySem.W.Frag} (hK : X.K = K) : IxR X (rIxT K) := hK ▸ ix_tup
theorem ix_seqK {X : Cx} {K : PySem.W.Frag} (hK : X.K = K) : IxR X (rIx K) := hK ▸ ix_seq
/-- a class made with keywords, all of them given -/
structure MakK (P : Program) (w : World) (K : PySem.W.Frag) (mg : Str → Option Value) (base : Heap) (k : Nat) (x : Str) (C : Addr) (n : Nat) (ks : List Str) (sp : Sp) : Prop where
  ex : ∃ (f : Addr) (fd : FuncData) (ps : List Str), Mk K C f ∧ FnOk P w K mg base CX0 k f fd ps sp ∧ mg x = some (.ref C) ∧ KBn K fd ps (n + 1) ks (fun us ws => us ++ ws) (fun vs zs => vs ++ zs)
section
variable {X : Cx} {C : Addr} {k j n : Nat} {x : Str} {ks : List Str} {sp : Sp} {p pos : Pos} {e : Expr} {es : List Expr} {kws : List Keyword} {t tk : TA}
theorem pe_mkk (c : MakK X.prog X.w X.K X.mg X.base k x C n ks sp) (hr : Room j X.A) (hk : k + 1 ≤ j) (hg : Gl X x) (ha : PA X (e :: es) t) (hkw : PK X kws tk)
    (hall : (backToKw pos (keywordEach kws X.env)).all (·.1.isSome) = true := by rfl) (hks : (backToKw pos (keywordEach kws X.env)).filterMap (·.1) = ks := by rfl)
    (hdb : (x == ("__debug__" : Str)) = false := by decide) (he : starEach (e :: es) X.env = (false, eval e X.env) :: starEach es X.env := by rfl)
    (hpl : ((backTo pos (starEach (e :: es) X.env)).any (·.1) || (backToKw pos (keywordEach kws X.env)).any (·.1.isNone)) = false := by rfl) :
    PE X (.Call (.Name x p) (e :: es) kws pos) (tMakeK C n ks.length sp (fun vs zs => vs ++ zs) E0 t tk) := by
  obtain ⟨f, fd, ps, M, F, hm, b⟩ := c.ex
  exact pe_makeK M F (hr.mono hk) hg hm b pass0 ha hkw hall hks hdb he hpl
end
/-- what the top has left, the three classes at cO, cC, cM -/
structure Tx (K : PySem.W.Frag) (mg : Str → Option Value) (cO cC cM : Addr) : Prop where
  b_isinstance : mg "isinstance" = none
  b_int : mg "int" = none
  b_str : mg "str" = none
  b_bool : mg "bool" = none
  b_len : mg "len" = none
  b_all : mg "all" = none
  b_list : mg "list" = none
  b_tuple : mg "tuple" = none
  b_dict : mg "dict" = none
  b_sorted : mg "sorted" = none
  b_range : mg "range" = none
  b_max : mg "max" = none
  b_min : mg "min" = none
  b_abs : mg "abs" = none
  b_zip : mg "zip" = none
  b_enumerate : mg "enumerate" = none
  b_super : mg "super" = none
  g_COINS : ∃ u, mg "COINS" = some u ∧ RelV (.int (10 ^ 30)) u
  g_LETTERS : ∃ u, mg "LETTERS" = some u ∧ RelV (.int 8) u
  g_ALPHABET : ∃ u, mg "ALPHABET" = some u ∧ RelV (.str "abcdefghijklmnopqrstuvwxyz") u
  g_NEVER : ∃ u, mg "NEVER" = some u ∧ RelV (.int (-1)) u
  m_Office : mg "Office" = some (.ref cO)
  m_CappedOffice : mg "CappedOffice" = some (.ref cC)
  m_Market : mg "Market" = some (.ref cM)
  ne : cO ≠ cC
  clO : Cls K cO
  clC : Cls K cC
  clM : Cls K cM
  nO : ∀ x ∈ (["name", "own_ends", "own_rate", "own_fee", "own_least"] : List Str), NoAttr K cO x
  nC : ∀ x ∈ (["name", "own_ends", "own_rate", "own_fee", "own_least", "own_most"] : List Str), NoAttr K cC x
  nM : ∀ x ∈ (["own_currencies", "own_offices", "by_name"] : List Str), NoAttr K cM x
  oFEE : ∃ u, Con K cO "FEE" (.int 20) u
  oLEAST : ∃ u, Con K cO "LEAST" (.int 1000) u
  cFEE : ∃ u, Con K cC "FEE" (.int 20) u
  cLEAST : ∃ u, Con K cC "LEAST" (.int 1000) u
  cMOST : ∃ u, Con K cC "MOST" (.int 1000000) u
  oRATE : ∃ mc u, ClX.CRead K cO mc ∧ ClX.CVal K cO mc "RATE" (.int 9) u
  mCUR : ∃ mc u, ClX.CRead K cM mc ∧ ClX.CVal K cM mc "CURRENCIES" (.int 4) u
  mOFF : ∃ mc u, ClX.CRead K cM mc ∧ ClX.CVal K cM mc "OFFICES" (.int 20) u
  iO : C8.InsC K cO
  isC : ∀ {H : Hp} {a dx : Addr} {fs : List (Str × V)}, H a = some (.ins cC dx fs) → ∃ t, TyX K H (.ref a) t ∧ PySem.W.kitOne K t (.ref cO) = some true
end Rd
end T_W0
section T_RdNe
set_option Elab.async false
set_option linter.all false
set_option maxRecDepth 100000
set_option maxHeartbeats 4000000
/-! xs != [] -/
namespace Rd
open PySem PySem.Spec PyProof.Rows L2
/-- a list against an empty one -/
def rNeE (K : PySem.W.Frag) : R2 := fun x y H Q => ∃ a b xs, x = .ref a ∧ y = .ref b ∧ SqL K H a xs ∧ H b = some (.lst []) ∧ Q (.bl (!xs.isEmpty)) H
theorem op_neE {X : Cx} (hu : X.A.units < cLine) : OpR X (compareOp .NotEq) (rNeE X.K) := by
  intro pins s σ H x y v u Q I rx ry h
  obtain ⟨a, b, xs, rfl, rfl, ha, hb, q⟩ := h
  obtain rfl : v = Value.ref a := rx
  obtain rfl : u = Value.ref b := ry
  obtain ⟨its, rv, pl, _⟩ := I.list ha
  obtain ⟨its2, rv2, pl2, _⟩ := I.list (SqL.of (K := X.K) hb)
  obtain rfl : its2 = [] := by cases rv2; rfl
  have hl := rv.length
  cases xs with
  | nil =>
    obtain rfl : its = [] := by cases rv; rfl
    refine SeqAt.RcNeAt.lists (e := fun _ => true) pl.isList pl2.isList rfl hu (fun j h1 => by simp at h1) X.prog X.w _ _ ?_
    exact ⟨.bl false, H, I, rfl, q⟩
  | cons z zs =>
    refine SeqAt.RcNeAt.lists_lengths pl.isList pl2.isList ?_ hu X.prog X.w _ _ ?_
    · cases its with
      | nil => cases hl
      | cons i is => simp
    · exact ⟨.bl true, H, I, rfl, q⟩
end Rd
end T_RdNe
section T_W1
set_option Elab.async false
set_option linter.all false
set_option maxRecDepth 100000
set_option maxHeartbeats 4000000
/-! Checks. -/
namespace Rd
open PySem PySem.Spec PyProof.Rows L2
theorem ok0 {P : Program} {w : World} {K : PySem.W.Frag} {mg : Str → Option Value} {base : Heap} {x qual : Str} {params : Arguments} {body : List Stmt} {scope : Scope} {dvs : List V} {kws : List (Str × V)} {f : Addr} {fd : FuncData} {N ps : List Str} {k : Nat} {sp : Sp} (F : FunD K x qual params body scope dvs kws f fd) (S : FnScope N ps scope) (len : ∀ vs H Q E, sp vs H Q E → vs.length = ps.length)
    (hbody : ∀ (cdv : Value) (A : Around) (outer : List Env) (s : Shared) (H : Hp) (vs : List V) (Q : VK) (E : XK), Room k (A.deeper (envOfC qual scope s.heap.objs.size f cdv)) → sp vs H Q E →
      ∃ t, PSs (cxOf CX0 P w K mg base N qual scope f cdv A outer s H E).nox body t ∧ t { nx := fun _ H' => Q .non H', rt := Q } (start N vs) H) : FnOk P w K mg base CX0 (k + 1) f fd ps sp :=
  F.ok S len fun cdv A outer s H vs Q E hr h => let ⟨t, h1, h2⟩ := hbody cdv A outer s H vs Q E hr h; ⟨t, h1.nox, h2⟩
theorem same_put {H0 H : Hp} {D : Addr} {o : HO} (s : Same H0 H) (n : H0 D = none) : Same H0 (upd H D o) := fun b u e => by
  rw [upd_ne (fun z => by rw [z, n] at e; cases e)]
  exact s b u e

theorem yes_if {σ : L2.St} {H : Hp} {A B : Hp → Prop} (h : A H) : tYes σ H (fun b H3 => if b = true then A H3 else B H3) := by
  show if true = true then A H else B H
  rw [if_pos rfl]
  exact h
abbrev abet : Str := "abcdefghijklmnopqrstuvwxyz"
structure NameOk (z : Str) : Prop where
  pos : 0 < z.cps.size
  le : z.cps.size ≤ 8
  ab : ∀ c ∈ z.cps.toList, c ∈ abet.cps.toList
theorem NameOk.line {z : Str} (n : NameOk z) : z.length ≤ sizeLine := Nat.le_trans (show z.cps.size ≤ 8 from n.le) (by decide)
def spIsInt : Sp := fun vs H Q _ => ∃ v a b : Int, vs = [.int v, .int a, .int b] ∧ a ≤ v ∧ v ≤ b ∧ Q (.bl true) H
def spNeedInt : Sp := fun vs H Q _ => ∃ v a b : Int, vs = [.int v, .int a, .int b] ∧ a ≤ v ∧ v ≤ b ∧ Q .non H
def spIsAmount : Sp := fun vs H Q _ => ∃ v : Int, vs = [.int v] ∧ 0 ≤ v ∧ v ≤ 10 ^ 30 ∧ Q (.bl true) H
def spIsName : Sp := fun vs H Q _ => ∃ z : Str, vs = [.str z] ∧ NameOk z ∧ ∀ H', Same H H' → Q (.bl true) H'
def spNeedName : Sp := fun vs H Q _ => ∃ z : Str, vs = [.str z] ∧ NameOk z ∧ ∀ H', Same H H' → Q .non H'
def spIsList : Sp := fun vs H Q _ => ∃ a xs, vs = [.ref a] ∧ H a = some (.lst xs) ∧ ∀ H', Same H H' → Q (.bl true) H'
def spIsPair : Sp := fun vs H Q _ => ∃ a z v, vs = [.ref a] ∧ H a = some (.tup [.str z, .int v]) ∧ NameOk z ∧ 0 ≤ v ∧ v ≤ 10 ^ 30 ∧ ∀ H', Same H H' → Q (.bl true) H'
section
variable {P : Program} {w : World} {K : PySem.W.Frag} {mg : Str → Option Value} {base : Heap} {cO cC cM f : Addr} {fd : FuncData}
abbrev s_is_integer : Stmt := top 18
abbrev Nis_integer : List Str := ["value", "least", "most"]
theorem scis_integer : FnScope Nis_integer ["value", "least", "most"] (defScope s_is_integer) := ⟨rfl, rfl, rfl, by decide +kernel, rfl, by decide +kernel, by decide +kernel⟩
theorem ok_is_integer (F : FD K "is_integer" s_is_integer f fd) (T : Tx K mg cO cC cM) : FnOk P w K mg base CX0 1 f fd ["value", "least", "most"] spIsInt := by
  refine ok0 F scis_integer (fun vs H Q E h => ?_) (fun cdv A outer s H vs Q E hr h => ?_)
  · obtain ⟨v, a, b, rfl, _⟩ := h
    rfl
  · obtain ⟨v, a, b, rfl, h1, h2, k⟩ := h
    refine ⟨_, (pss_one (ps_ret (pe_and (pe_callB call_isi (by rfl) T.b_isinstance bt_isinstance (pa_cons (pv 0) (pa_cons (pe_bltn (v := .ty "int") (by rfl) T.b_int bt_int rfl) pa_nil))) (pe_and (pe_not (pe_callB call_isi (by rfl) T.b_isinstance bt_isinstance (pa_cons (pv 0) (pa_cons (pe_bltn (v := .ty "bool") (by rfl) T.b_bool bt_bool rfl) pa_nil)))) (pe_one (pe_chain op_le op_le (pv 1) (pv 0) (pv 2))))))), ?_⟩
    refine ⟨_, rfl, _, _, _, _, true, rfl, .ty _, .base (.int _), kit_ty (by decide +kernel), true, rfl, iteT ?_⟩
    refine ⟨_, rfl, _, _, _, _, false, rfl, .ty _, .base (.int _), kit_ty (by decide +kernel), _, rfl, _, rfl, iteT ?_⟩
    refine ⟨_, rfl, _, rfl, _, _, rfl, rfl, _, rfl, ?_⟩
    rw [decide_eq_true h1]
    refine iteT ⟨_, rfl, _, _, rfl, rfl, ?_⟩
    show Q (.bl (decide (v ≤ b))) H
    rw [decide_eq_true h2]
    exact k
abbrev s_need_integer : Stmt := top 24
abbrev Nneed_integer : List Str := ["value", "least", "most"]
theorem scneed_integer : FnScope Nneed_integer ["value", "least", "most"] (defScope s_need_integer) := ⟨rfl, rfl, rfl, by decide +kernel, rfl, by decide +kernel, by decide +kernel⟩
theorem ok_need_integer (F : FD K "need_integer" s_need_integer f fd) (T : Tx K mg cO cC cM) (c_is_integer : CalK P w K mg base 1 "is_integer" 1 ["least", "most"] spIsInt) : FnOk P w K mg base CX0 2 f fd ["value", "least", "most"] spNeedInt := by
  refine ok0 F scneed_integer (fun vs H Q E h => ?_) (fun cdv A outer s H vs Q E hr h => ?_)
  · obtain ⟨v, a, b, rfl, _⟩ := h
    rfl
  · obtain ⟨v, a, b, rfl, h1, h2, k⟩ := h
    refine ⟨_, (pss_one (ps_if (pt_not (pt_val (pe_ck c_is_integer hr (by decide) (by rfl) (pa_cons (pv 0) pa_nil) (pk_cons (pv 1) (pk_cons (pv 2) pk_nil))))) (pss_one ps_never) pss_nil)), ?_⟩
    refine ⟨_, rfl, _, rfl, _, rfl, rfl, rfl, v, a, b, rfl, h1, h2, _, rfl, ?_⟩
    exact k
abbrev s_is_amount : Stmt := top 21
abbrev Nis_amount : List Str := ["value"]
theorem scis_amount : FnScope Nis_amount ["value"] (defScope s_is_amount) := ⟨rfl, rfl, rfl, by decide +kernel, rfl, by decide +kernel, by decide +kernel⟩
theorem ok_is_amount (F : FD K "is_amount" s_is_amount f fd) (T : Tx K mg cO cC cM) (c_is_integer : CalK P w K mg base 1 "is_integer" 1 ["least", "most"] spIsInt) : FnOk P w K mg base CX0 2 f fd ["value"] spIsAmount := by
  refine ok0 F scis_amount (fun vs H Q E h => ?_) (fun cdv A outer s H vs Q E hr h => ?_)
  · obtain ⟨v, rfl, _⟩ := h
    rfl
  · obtain ⟨v, rfl, h1, h2, k⟩ := h
    refine ⟨_, (pss_one (ps_ret (pe_ck c_is_integer hr (by decide) (by rfl) (pa_cons (pv 0) pa_nil) (pk_cons pe_int (pk_cons (C8.pe_gc (by rfl) T.g_COINS) pk_nil))))), ?_⟩
    exact ⟨_, rfl, rfl, rfl, v, 0, 10 ^ 30, rfl, h1, h2, k⟩
abbrev s_is_name : Stmt := top 19
abbrev Nis_name : List Str := ["value", "letter"]
theorem scis_name : FnScope Nis_name ["value"] (defScope s_is_name) := ⟨rfl, rfl, rfl, by decide +kernel, rfl, by decide +kernel, by decide +kernel⟩
theorem ok_is_name (F : FD K "is_name" s_is_name f fd) (T : Tx K mg cO cC cM) : FnOk P w K mg base CX0 1 f fd ["value"] spIsName := by
  refine ok0 F scis_name (fun vs H Q E h => ?_) (fun cdv A outer s H vs Q E hr h => ?_)
  · obtain ⟨z, rfl, _⟩ := h
    rfl
  · obtain ⟨z, rfl, hn, k⟩ := h
    refine ⟨_, (pss_one (ps_ret (pe_and (pe_callB call_isi (by rfl) T.b_isinstance bt_isinstance (pa_cons (pv 0) (pa_cons (pe_bltn (v := .ty "str") (by rfl) T.b_str bt_str rfl) pa_nil))) (pe_and (pe_chain op_lt op_le pe_int (pe_callB call_len_str (by rfl) T.b_len bt_len (pa_cons (pv 0) pa_nil)) (C8.pe_gc (by rfl) T.g_LETTERS)) (pe_one (pe_callB (cr_all rfl) (by rfl) T.b_all bt_all (pa_cons (pe_lc (own := [("letter", 1)]) (g := gName 1) (tt := tYes) rfl scis_name.nd (pi_str (pv 0)) (blkOk_by (own := [("letter", 1)]) (N := Nis_name) (sc := defScope s_is_name) (by decide +kernel)) (fun _ _ _ _ _ => (pg_name (i := 1) scis_name.nd rfl (Or.inl rfl))) (fun _ _ _ _ _ => pts_nil) (fun _ _ _ _ _ => (pe_cmpR op_in_sign (pv 1) (C8.pe_gc (by rfl) T.g_ALPHABET) (by rfl)))) pa_nil))))))), ?_⟩
    refine ⟨_, rfl, _, _, _, _, true, rfl, .ty _, .base (.str _), kit_ty (by decide +kernel), true, rfl, iteT ?_⟩
    refine ⟨_, rfl, _, rfl, hn.line, _, _, rfl, rfl, _, rfl, ?_⟩
    rw [decide_eq_true (show (0 : Int) < (z.length : Int) from Int.ofNat_lt.mpr hn.pos)]
    refine iteT ⟨_, _, rfl, rfl, _, rfl, ?_⟩
    rw [decide_eq_true (show ((z.length : Nat) : Int) ≤ 8 from Int.ofNat_le.mpr hn.le)]
    refine iteT ⟨_, rfl, z, rfl, fun D hD => lc_it walk_str (fun i H' => Same H H' ∧ H' D = some (.lst ((List.replicate i true).map V.bl)))
      ⟨same_put (Same.refl H) hD, upd_same⟩ (fun _ _ _ _ => trivial) (fun i x H1 H2 hi ⟨s1, e1⟩ ⟨e2, c, hc, ex⟩ => ?_) fun H1 ⟨s1, e1⟩ => ?_⟩
    · subst e2 ex
      refine ⟨rfl, yes_if ⟨_, rfl, _, _, rfl, rfl, ?_⟩⟩
      have hm : c ∈ abet.cps.toList := hn.ab c (Array.mem_toList_iff.mpr (Array.mem_of_getElem? hc))
      show ∃ acc, _
      refine ⟨_, e1, ?_, same_put s1 hD, ?_⟩
      · rw [List.length_map, List.length_replicate]
        exact Nat.lt_of_lt_of_le hi (Nat.le_trans hn.le (by decide))
      · rw [upd_same, List.replicate_succ', List.map_append]
        have : decide (c ∈ abet.cps.toList) = true := decide_eq_true hm
        show some (HO.lst (_ ++ [V.bl (decide (c ∈ abet.cps.toList))])) = _
        rw [this]
        rfl
    · refine ⟨D, _, rfl, SqL.of e1, ?_⟩
      have : (List.replicate z.cps.size true).all id = true := by simp
      rw [this]
      exact k _ s1
abbrev s_need_name : Stmt := top 23
abbrev Nneed_name : List Str := ["value"]
theorem scneed_name : FnScope Nneed_name ["value"] (defScope s_need_name) := ⟨rfl, rfl, rfl, by decide +kernel, rfl, by decide +kernel, by decide +kernel⟩
theorem ok_need_name (F : FD K "need_name" s_need_name f fd) (T : Tx K mg cO cC cM) (c_is_name : C8.Cal P w K mg base 1 "is_name" spIsName []) : FnOk P w K mg base CX0 2 f fd ["value"] spNeedName := by
  refine ok0 F scneed_name (fun vs H Q E h => ?_) (fun cdv A outer s H vs Q E hr h => ?_)
  · obtain ⟨z, rfl, _⟩ := h
    rfl
  · obtain ⟨z, rfl, hn, k⟩ := h
    refine ⟨_, (pss_one (ps_if (pt_not (pt_val (C8.pe_c c_is_name hr (by decide) (by rfl) (pa_cons (pv 0) pa_nil)))) (pss_one ps_never) pss_nil)), ?_⟩
    exact ⟨_, rfl, z, rfl, hn, fun H' s' => ⟨_, rfl, k H' s'⟩⟩
abbrev s_is_list : Stmt := top 20
abbrev Nis_list : List Str := ["value"]
theorem scis_list : FnScope Nis_list ["value"] (defScope s_is_list) := ⟨rfl, rfl, rfl, by decide +kernel, rfl, by decide +kernel, by decide +kernel⟩
theorem ok_is_list (F : FD K "is_list" s_is_list f fd) (T : Tx K mg cO cC cM) : FnOk P w K mg base CX0 1 f fd ["value"] spIsList := by
  refine ok0 F scis_list (fun vs H Q E h => ?_) (fun cdv A outer s H vs Q E hr h => ?_)
  · obtain ⟨a, xs, rfl, _⟩ := h
    rfl
  · obtain ⟨a, xs, rfl, ha, k⟩ := h
    refine ⟨_, (pss_one (ps_ret (pe_callB call_isiT (by rfl) T.b_isinstance bt_isinstance (pa_cons (pv 0) (pa_cons (pe_tup (pa_cons (pe_bltn (v := .ty "list") (by rfl) T.b_list bt_list rfl) (pa_cons (pe_bltn (v := .ty "tuple") (by rfl) T.b_tuple bt_tuple rfl) pa_nil))) pa_nil))))), ?_⟩
    refine ⟨_, rfl, (by show 2 ≤ sizeLine; decide), fun p hp => ?_⟩
    refine ⟨_, _, _, _, _, true, rfl, upd_same, .cons (.ty _) (.cons (.ty _) .nil), .base (.lst (xs := xs) ?_), ?_, k _ (same_put (Same.refl H) hp)⟩
    · rw [upd_ne (ne_of_none ha hp)]; exact ha
    · exact kitAny_cons (b := true) (kit_ty (by decide +kernel)) (fun z => nomatch z) fun _ => rfl
abbrev s_is_pair : Stmt := top 22
abbrev Nis_pair : List Str := ["value"]
theorem scis_pair : FnScope Nis_pair ["value"] (defScope s_is_pair) := ⟨rfl, rfl, rfl, by decide +kernel, rfl, by decide +kernel, by decide +kernel⟩
theorem ok_is_pair (F : FD K "is_pair" s_is_pair f fd) (T : Tx K mg cO cC cM) (c_is_name : C8.Cal P w K mg base 1 "is_name" spIsName []) (c_is_amount : C8.Cal P w K mg base 2 "is_amount" spIsAmount []) : FnOk P w K mg base CX0 3 f fd ["value"] spIsPair := by
  refine ok0 F scis_pair (fun vs H Q E h => ?_) (fun cdv A outer s H vs Q E hr h => ?_)
  · obtain ⟨a, z, v, rfl, _⟩ := h
    rfl
  · obtain ⟨a, z, v, rfl, ha, hz, h1, h2, k⟩ := h
    refine ⟨_, (pss_one (ps_ret (pe_and (pe_callB call_isi (by rfl) T.b_isinstance bt_isinstance (pa_cons (pv 0) (pa_cons (pe_bltn (v := .ty "tuple") (by rfl) T.b_tuple bt_tuple rfl) pa_nil))) (pe_and (pe_cmpR op_eq (pe_callB call_len_seq (by rfl) T.b_len bt_len (pa_cons (pv 0) pa_nil)) pe_int (nomark _)) (pe_and (C8.pe_c c_is_name hr (by decide) (by rfl) (pa_cons (pe_ix ix_tup (pv 0) pe_int (fun _ _ => rfl)) pa_nil)) (pe_one (C8.pe_c c_is_amount hr (by decide) (by rfl) (pa_cons (pe_ix ix_tup (pv 0) pe_int (fun _ _ => rfl)) pa_nil)))))))), ?_⟩
    refine ⟨_, rfl, _, _, _, _, true, rfl, .ty _, .base (.tup ha), kit_ty (by decide +kernel), true, rfl, iteT ?_⟩
    refine ⟨_, rfl, _, _, rfl, .inr (SqT.of ha), rfl, _, rfl, iteT ?_⟩
    refine ⟨_, rfl, a, _, _, _, rfl, rfl, SqT.of ha, atI_nat (by rfl), z, rfl, hz, fun H1 s1 => ⟨_, rfl, iteT ?_⟩⟩
    exact ⟨_, rfl, a, _, _, _, rfl, rfl, SqT.of (s1 _ _ ha), atI_nat (by rfl), v, rfl, h1, h2, k H1 s1⟩
end
end Rd
end T_W1
section T_W2
set_option Elab.async false
set_option linter.all false
set_option maxRecDepth 100000
set_option maxHeartbeats 4000000
/-! Offices. -/
namespace Rd
open PySem PySem.Spec PyProof.Rows L2
structure Off where
  name : Str
  src : Str
  goal : Str
  p : Int
  q : Int
  fee : Int
  least : Int
  cap : Option Int
structure OffN (o : Off) : Prop where
  nm : NameOk o.name
  sn : NameOk o.src
  gn : NameOk o.goal
  p1 : 1 ≤ o.p
  p9 : o.p ≤ 9
  q1 : 1 ≤ o.q
  q9 : o.q ≤ 9
  f0 : 0 ≤ o.fee
  f20 : o.fee ≤ 20
  l0 : 0 ≤ o.least
  l1 : o.least ≤ 1000
  c : ∀ m, o.cap = some m → o.least ≤ m ∧ m ≤ 1000000
structure OffOk (cs : List Str) (o : Off) : Prop extends OffN o where
  s : o.src ∈ cs
  g : o.goal ∈ cs
/-- what the office gives for c coins, its cap not looked at -/
def Off.base (o : Off) (c : Int) : Option Int := if c < o.least then none else some (if c * o.p / o.q - o.fee > 0 then c * o.p / o.q - o.fee else 0)
def Off.cut (o : Off) (c : Int) : Int := match o.cap with
  | none => c
  | some m => if m < c then m else c
def Off.res (o : Off) (c : Int) : Option Int := o.base (o.cut c)
def ov : Option Int → V
  | none => .non
  | some x => .int x
def offF (o : Off) (e r : Addr) : List (Str × V) := putF "own_least" (.int o.least) (putF "own_fee" (.int o.fee) (putF "own_rate" (.ref r) (putF "own_ends" (.ref e) (putF "name" (.str o.name) []))))
def offFull (o : Off) (e r : Addr) : List (Str × V) := match o.cap with
  | none => offF o e r
  | some m => putF "own_most" (.int m) (offF o e r)
theorem offF_name (o : Off) (e r : Addr) : (offF o e r).lookup ("name" : Str) = some (.str o.name) := by
  unfold offF
  rw [lookup_putF, if_neg (by decide +kernel), lookup_putF, if_neg (by decide +kernel), lookup_putF, if_neg (by decide +kernel), lookup_putF, if_neg (by decide +kernel), lookup_putF, if_pos rfl]
theorem offF_ends (o : Off) (e r : Addr) : (offF o e r).lookup ("own_ends" : Str) = some (.ref e) := by
  unfold offF
  rw [lookup_putF, if_neg (by decide +kernel), lookup_putF, if_neg (by decide +kernel), lookup_putF, if_neg (by decide +kernel), lookup_putF, if_pos rfl]
theorem offF_rate (o : Off) (e r : Addr) : (offF o e r).lookup ("own_rate" : Str) = some (.ref r) := by
  unfold offF
  rw [lookup_putF, if_neg (by decide +kernel), lookup_putF, if_neg (by decide +kernel), lookup_putF, if_pos rfl]
theorem offF_fee (o : Off) (e r : Addr) : (offF o e r).lookup ("own_fee" : Str) = some (.int o.fee) := by
  unfold offF
  rw [lookup_putF, if_neg (by decide +kernel), lookup_putF, if_pos rfl]
theorem offF_least (o : Off) (e r : Addr) : (offF o e r).lookup ("own_least" : Str) = some (.int o.least) := by
  unfold offF
  rw [lookup_putF, if_pos rfl]
theorem offF_no (o : Off) (e r : Addr) {m : Str} (h1 : ¬ m = "own_least") (h2 : ¬ m = "own_fee") (h3 : ¬ m = "own_rate") (h4 : ¬ m = "own_ends") (h5 : ¬ m = "name") : (offF o e r).lookup m = none := by
  unfold offF
  rw [lookup_putF, if_neg h1, lookup_putF, if_neg h2, lookup_putF, if_neg h3, lookup_putF, if_neg h4, lookup_putF, if_neg h5]
  rfl
theorem putF_len (f : Str) (v : V) : ∀ fs : List (Str × V), (putF f v fs).length ≤ fs.length + 1
  | [] => Nat.le_refl _
  | (g, x) :: r => by
    unfold putF
    split
    · exact Nat.le_succ _
    · exact Nat.succ_le_succ (putF_len f v r)
theorem offFull_look {o : Off} {e r : Addr} {f : Str} (h : ¬ f = "own_most") : (offFull o e r).lookup f = (offF o e r).lookup f := by
  unfold offFull
  cases o.cap with
  | none => rfl
  | some m => show (putF _ _ _).lookup f = _; rw [lookup_putF, if_neg h]
def clsOf (cO cC : Addr) (o : Off) : Addr := match o.cap with
  | none => cO
  | some _ => cC
/-- the office o stands at a -/
def OffAt (cO cC : Addr) (H : Hp) (a : Addr) (o : Off) : Prop := ∃ dx e r, H e = some (.tup [.str o.src, .str o.goal]) ∧ H r = some (.tup [.int o.p, .int o.q]) ∧ H a = some (.ins (clsOf cO cC o) dx (offFull o e r))
theorem OffAt.same {cO cC : Addr} {H H' : Hp} {a : Addr} {o : Off} (x : OffAt cO cC H a o) (s : Same H H') : OffAt cO cC H' a o :=
  let ⟨dx, e, r, h1, h2, h3⟩ := x
  ⟨dx, e, r, s _ _ h1, s _ _ h2, s _ _ h3⟩
theorem Tx.clOf {K : PySem.W.Frag} {mg : Str → Option Value} {cO cC cM : Addr} (T : Tx K mg cO cC cM) (o : Off) : Cls K (clsOf cO cC o) := by
  unfold clsOf
  cases o.cap with
  | none => exact T.clO
  | some m => exact T.clC
theorem Tx.noOf {K : PySem.W.Frag} {mg : Str → Option Value} {cO cC cM : Addr} (T : Tx K mg cO cC cM) (o : Off) {x : Str} (h : x ∈ (["name", "own_ends", "own_rate", "own_fee", "own_least"] : List Str)) : NoAttr K (clsOf cO cC o) x := by
  unfold clsOf
  cases o.cap with
  | none => exact T.nO x h
  | some m => exact T.nC x (by simp only [List.mem_cons, List.not_mem_nil, or_false] at h ⊢; rcases h with h | h | h | h | h <;> simp [h])

/-! ### properties, of an office of either class -/
structure PrB (P : Program) (w : World) (K : PySem.W.Frag) (mg : Str → Option Value) (base : Heap) (k : Nat) (C : Addr) (f : Str) (sp : Sp) : Prop where
  ex : ∃ (p g : Addr) (fd : FuncData) (ps : List Str), PropOf K C f p g ∧ FnOk P w K mg base CX0 k g fd ps sp ∧ Binds K fd ps []
structure OffPr (P : Program) (w : World) (K : PySem.W.Frag) (mg : Str → Option Value) (base : Heap) (cO cC : Addr) (k : Nat) (f : Str) (sel : Off → V) : Prop where
  o : PrB P w K mg base k cO f (fun vs H Q _ => ∃ a o, vs = [.ref a] ∧ OffAt cO cC H a o ∧ Q (sel o) H)
  c : PrB P w K mg base k cC f (fun vs H Q _ => ∃ a o, vs = [.ref a] ∧ OffAt cO cC H a o ∧ Q (sel o) H)
def tOff (cO cC : Addr) (sel : Off → V) (te : TE) : TE := fun σ H Q => te σ H fun x H1 => ∃ a o, x = .ref a ∧ OffAt cO cC H1 a o ∧ Q (sel o) H1
section
variable {X : Cx} {k j : Nat} {cO cC cM : Addr} {f : Str} {sel : Off → V} {sp : Sp} {e : Expr} {pos : Pos} {te : TE} {C : Addr}
theorem pe_pr (c : PrB X.prog X.w X.K X.mg X.base k C f sp) (cl : Cls X.K C) (hr : Room j X.A) (hk : k + 1 ≤ j) (he : PE X e te) (hab : attributeBase e f X.env (eval e X.env) = eval e X.env := by rfl) : PE X (.Attribute e f pos) (tProp C sp [] E0 te) := by
  obtain ⟨p, g, fd, ps, hp, F, b⟩ := c.ex
  exact pe_prop he cl hp F (hr.mono hk) b .nil pass0 hab
theorem pe_off (c : OffPr X.prog X.w X.K X.mg X.base cO cC k f sel) (T : Tx X.K X.mg cO cC cM) (hr : Room j X.A) (hk : k + 1 ≤ j) (he : PE X e te) (hab : attributeBase e f X.env (eval e X.env) = eval e X.env := by rfl) :
    PE X (.Attribute e f pos) (tOff cO cC sel te) := by
  refine ⟨fun pins s σ H Q I h => ?_⟩
  refine attr_of hab (thn (he.run pins s σ H _ I h) fun u s1 ⟨x, H1, I1, rx, a, o, ex, ea, q⟩ => ?_)
  subst ex
  obtain rfl : u = Value.ref a := rx
  obtain ⟨dx, e1, r1, h1, h2, h3⟩ := id ea
  cases hc : o.cap with
  | none =>
    obtain ⟨p, g, fd, ps, hp, F, b⟩ := c.o.ex
    have h4 : H1 a = some (.ins cO dx (offFull o e1 r1)) := by rw [h3]; unfold clsOf; rw [hc]
    exact getprop_ok I1 h4 T.clO hp F (hr.mono hk) b .nil pass0 ⟨a, o, rfl, ea, q⟩
  | some m =>
    obtain ⟨p, g, fd, ps, hp, F, b⟩ := c.c.ex
    have h4 : H1 a = some (.ins cC dx (offFull o e1 r1)) := by rw [h3]; unfold clsOf; rw [hc]
    exact getprop_ok I1 h4 T.clC hp F (hr.mono hk) b .nil pass0 ⟨a, o, rfl, ea, q⟩
end
section
variable {P : Program} {w : World} {K : PySem.W.Frag} {mg : Str → Option Value} {base : Heap} {cO cC cM f : Addr} {fd : FuncData}
abbrev s_Office_source : Stmt := inClass (top 36) 8
abbrev NOffice_source : List Str := ["self"]
theorem scOffice_source : FnScope NOffice_source ["self"] (defScope s_Office_source) := ⟨rfl, rfl, rfl, by decide +kernel, rfl, by decide +kernel, by decide +kernel⟩
abbrev s_Office_goal : Stmt := inClass (top 36) 9
abbrev NOffice_goal : List Str := ["self"]
theorem scOffice_goal : FnScope NOffice_goal ["self"] (defScope s_Office_goal) := ⟨rfl, rfl, rfl, by decide +kernel, rfl, by decide +kernel, by decide +kernel⟩
theorem ok_source (F : FC K "source" "Office.source" s_Office_source f fd) (T : Tx K mg cO cC cM) : FnOk P w K mg base CX0 1 f fd ["self"] (fun vs H Q _ => ∃ a o, vs = [.ref a] ∧ OffAt cO cC H a o ∧ Q (.str o.src) H) := by
  refine ok0 F scOffice_source (fun vs H Q E h => ?_) (fun cdv A outer s H vs Q E hr h => ?_)
  · obtain ⟨a, o, rfl, _⟩ := h
    rfl
  · obtain ⟨a, o, rfl, ⟨dx, e, r, h1, h2, h3⟩, k⟩ := h
    refine ⟨_, (pss_one (ps_ret (pe_ix ix_tup (pe_fld (pv 0) rfl) pe_int (fun _ _ => rfl)))), ?_⟩
    exact ⟨_, rfl, a, _, dx, _, _, rfl, h3, T.clOf o, T.noOf o (by simp), (offFull_look (by decide +kernel)).trans (offF_ends _ _ _), e, _, _, _, rfl, rfl, SqT.of h1, atI_nat (by rfl), k⟩
theorem ok_goal (F : FC K "goal" "Office.goal" s_Office_goal f fd) (T : Tx K mg cO cC cM) : FnOk P w K mg base CX0 1 f fd ["self"] (fun vs H Q _ => ∃ a o, vs = [.ref a] ∧ OffAt cO cC H a o ∧ Q (.str o.goal) H) := by
  refine ok0 F scOffice_goal (fun vs H Q E h => ?_) (fun cdv A outer s H vs Q E hr h => ?_)
  · obtain ⟨a, o, rfl, _⟩ := h
    rfl
  · obtain ⟨a, o, rfl, ⟨dx, e, r, h1, h2, h3⟩, k⟩ := h
    refine ⟨_, (pss_one (ps_ret (pe_ix ix_tup (pe_fld (pv 0) rfl) pe_int (fun _ _ => rfl)))), ?_⟩
    exact ⟨_, rfl, a, _, dx, _, _, rfl, h3, T.clOf o, T.noOf o (by simp), (offFull_look (by decide +kernel)).trans (offF_ends _ _ _), e, _, _, _, rfl, rfl, SqT.of h1, atI_nat (by rfl), k⟩

/-! ### result -/
/-- Office.result, also by super() -/
def spBase (cO cC : Addr) : Sp := fun vs H Q _ => ∃ a o c, vs = [.ref a, .int c] ∧ OffAt cO cC H a o ∧ 1 ≤ o.p ∧ o.p ≤ 9 ∧ 1 ≤ o.q ∧ o.q ≤ 9 ∧ Q (ov (o.base c)) H
abbrev s_Office_result : Stmt := inClass (top 36) 17
abbrev NOffice_result : List Str := ["self", "coins", "p", "q"]
theorem scOffice_result : FnScope NOffice_result ["self", "coins"] (defScope s_Office_result) := ⟨rfl, rfl, rfl, by decide +kernel, rfl, by decide +kernel, by decide +kernel⟩
theorem ok_base (F : FC K "result" "Office.result" s_Office_result f fd) (T : Tx K mg cO cC cM) : FnOk P w K mg base CX0 1 f fd ["self", "coins"] (spBase cO cC) := by
  refine ok0 F scOffice_result (fun vs H Q E h => ?_) (fun cdv A outer s H vs Q E hr h => ?_)
  · obtain ⟨a, o, c, rfl, _⟩ := h
    rfl
  · obtain ⟨a, o, c, rfl, ⟨dx, e, r, h1, h2, h3⟩, p1, p9, q1, q9, k⟩ := h
    have hcl := T.clOf o
    refine ⟨_, (pss_cons (ps_if (pt_cmpR op_lt (pv 1) (pe_fld (pv 0) rfl) (nomark _)) (pss_one (ps_ret pe_non)) pss_nil)
    (pss_cons (ps_asg (pe_fld (pv 0) rfl) (pg_tup rfl (pgs_cons (pg_name (i := 2) scOffice_result.nd rfl (Or.inl rfl)) (pgs_cons (pg_name (i := 3) scOffice_result.nd rfl (Or.inl rfl)) pgs_nil))))
    (pss_one (ps_ret (pe_callB (call_max2 rfl) (by rfl) T.b_max bt_max (pa_cons pe_int (pa_cons (pe_op op_sub (pe_op op_fdiv (pe_op op_mul (pv 1) (pv 2)) (pv 3)) (pe_fld (pv 0) rfl)) pa_nil))))))), ?_⟩
    refine ⟨_, rfl, _, rfl, a, _, dx, _, _, rfl, h3, hcl, T.noOf o (by simp), (offFull_look (by decide +kernel)).trans (offF_least _ _ _), _, _, rfl, rfl, _, rfl, ?_⟩
    unfold Off.base at k
    by_cases hlt : c < o.least
    · rw [if_pos hlt] at k
      rw [decide_eq_true hlt]
      exact iteT k
    · rw [if_neg hlt] at k
      rw [decide_eq_false hlt]
      refine iteF ⟨_, rfl, a, _, dx, _, _, rfl, h3, hcl, T.noOf o (by simp), (offFull_look (by decide +kernel)).trans (offF_rate _ _ _), r, _, rfl, SqT.of h2, rfl, ?_⟩
      refine ⟨_, _, rfl, _, _, rfl, rfl, ?_⟩
      refine ⟨_, rfl, _, rfl, _, _, rfl, rfl, .inr ⟨by omega, by omega⟩, _, rfl, _, _, rfl, rfl, ⟨by omega, by omega⟩, _, rfl, a, _, dx, _, _, rfl, h3, hcl, T.noOf o (by simp), (offFull_look (by decide +kernel)).trans (offF_fee _ _ _), _, _, rfl, rfl, _, _, rfl, ?_⟩
      exact k
end
end Rd
end T_W2
section T_W3
set_option Elab.async false
set_option linter.all false
set_option maxRecDepth 100000
set_option maxHeartbeats 4000000
/-! Offices made. -/
namespace Rd
open PySem PySem.Spec PyProof.Rows L2
def spIsRate : Sp := fun vs H Q _ => ∃ a p q, vs = [.ref a] ∧ H a = some (.tup [.int p, .int q]) ∧ 1 ≤ p ∧ p ≤ 9 ∧ 1 ≤ q ∧ q ≤ 9 ∧ ∀ H', Same H H' → Q (.bl true) H'
def spOffInit (cO cC : Addr) : Sp := fun vs H Q _ => ∃ (x rt C dx : Addr) (o : Off), vs = [.ref x, .str o.name, .str o.src, .str o.goal, .ref rt, .int o.fee, .int o.least] ∧ OffN o ∧ (C = cO ∨ C = cC) ∧ H x = some (.ins C dx []) ∧ H rt = some (.tup [.int o.p, .int o.q]) ∧
  ∀ H' e, (∀ b u, b ≠ x → H b = some u → H' b = some u) → H' e = some (.tup [.str o.src, .str o.goal]) → H' x = some (.ins C dx (offF o e rt)) → Q .non H'
section
variable {P : Program} {w : World} {K : PySem.W.Frag} {mg : Str → Option Value} {base : Heap} {cO cC cM f : Addr} {fd : FuncData}
abbrev s_is_rate : Stmt := top 35
abbrev Nis_rate : List Str := ["value", "part"]
theorem scis_rate : FnScope Nis_rate ["value"] (defScope s_is_rate) := ⟨rfl, rfl, rfl, by decide +kernel, rfl, by decide +kernel, by decide +kernel⟩
theorem ok_is_rate (F : FD K "is_rate" s_is_rate f fd) (T : Tx K mg cO cC cM) (c_is_integer : CalK P w K mg base 1 "is_integer" 1 ["least", "most"] spIsInt) : FnOk P w K mg base CX0 2 f fd ["value"] spIsRate := by
  refine ok0 F scis_rate (fun vs H Q E h => ?_) (fun cdv A outer s H vs Q E hr h => ?_)
  · obtain ⟨a, p, q, rfl, _⟩ := h
    rfl
  · obtain ⟨a, p, q, rfl, ha, p1, p9, q1, q9, k⟩ := h
    obtain ⟨mc, u, hR, hV⟩ := T.oRATE
    refine ⟨_, (pss_cons (ps_if (PW.pt (pw_or (pt_not (pt_val (pe_callB call_isi (by rfl) T.b_isinstance bt_isinstance (pa_cons (pv 0) (pa_cons (pe_bltn (v := .ty "tuple") (by rfl) T.b_tuple bt_tuple rfl) pa_nil))))) (pw_or1 (pt_cmpR op_ne (pe_callB call_len_seq (by rfl) T.b_len bt_len (pa_cons (pv 0) pa_nil)) pe_int (nomark _))))) (pss_one (ps_ret pe_bl)) pss_nil)
    (pss_one (ps_ret (pe_callB (cr_all rfl) (by rfl) T.b_all bt_all (pa_cons (pe_lc (own := [("part", 1)]) (g := gName 1) (tt := tYes) rfl scis_rate.nd (pi_tup (pv 0)) (blkOk_by (own := [("part", 1)]) (N := Nis_rate) (sc := defScope s_is_rate) (by decide +kernel)) (fun _ _ _ _ _ => (pg_name (i := 1) scis_rate.nd rfl (Or.inl rfl))) (fun _ _ _ _ _ => pts_nil) (fun _ _ _ _ _ => (pe_ck c_is_integer hr (by decide) (by rfl) (pa_cons (pv 1) pa_nil) (pk_cons pe_int (pk_cons (pe_ccv (K := K) rfl (by rfl) T.m_Office) pk_nil))))) pa_nil))))), ?_⟩
    refine ⟨_, rfl, _, _, _, _, true, rfl, .ty _, .base (.tup ha), kit_ty (by decide +kernel), _, rfl, iteF ?_⟩
    refine ⟨_, rfl, _, _, rfl, .inr (SqT.of ha), rfl, _, rfl, iteF ?_⟩
    refine ⟨_, rfl, a, rfl, ⟨_, SqT.of ha⟩, fun D hD => lc_it (walk_tup (K := K) (a := a) (xs := [.int p, .int q])) (fun i H' => Same H H' ∧ H' D = some (.lst ((List.replicate i true).map V.bl)))
      ⟨same_put (Same.refl H) hD, upd_same⟩ (fun _ _ _ h => SqT.of (h.1 _ _ ha)) (fun i x H1 H2 hi ⟨s1, e1⟩ ⟨e2, hx⟩ => ?_) fun H1 ⟨s1, e1⟩ => ?_⟩
    · subst e2
      have hx2 : ∃ v : Int, x = .int v ∧ 1 ≤ v ∧ v ≤ 9 := by
        match i, hx with
        | 0, hx => cases hx; exact ⟨p, rfl, p1, p9⟩
        | 1, hx => cases hx; exact ⟨q, rfl, q1, q9⟩
        | (n + 2), hx => cases hx
      obtain ⟨v, rfl, h1, h9⟩ := hx2
      refine ⟨rfl, yes_if ⟨_, rfl, cO, mc, _, u, rfl, hR, hV, rfl, rfl, v, 1, 9, rfl, h1, h9, ?_⟩⟩
      refine ⟨_, e1, ?_, same_put s1 hD, ?_⟩
      · rw [List.length_map, List.length_replicate]
        exact Nat.lt_of_lt_of_le hi (by show 2 ≤ sizeLine; decide)
      · rw [upd_same, List.replicate_succ', List.map_append]
        rfl
    · exact ⟨D, _, rfl, SqL.of e1, k _ s1⟩
abbrev s_Office_init : Stmt := inClass (top 36) 4
abbrev NOffice_init : List Str := ["self", "name", "source", "goal", "rate", "fee", "least", "value"]
theorem scOffice_init : FnScope NOffice_init ["self", "name", "source", "goal", "rate", "fee", "least"] (defScope s_Office_init) := ⟨rfl, rfl, rfl, by decide +kernel, rfl, by decide +kernel, by decide +kernel⟩
theorem ok_off_init (F : FunD K "__init__" "Office.__init__" (defArgs s_Office_init) (defBody s_Office_init) (defScope s_Office_init) [] [("fee", .int 0), ("least", .int 0)] f fd) (T : Tx K mg cO cC cM) (c_need_integer : CalK P w K mg base 2 "need_integer" 1 ["least", "most"] spNeedInt)
    (c_need_name : C8.Cal P w K mg base 2 "need_name" spNeedName []) (c_is_rate : C8.Cal P w K mg base 2 "is_rate" spIsRate []) : FnOk P w K mg base CX0 3 f fd ["self", "name", "source", "goal", "rate", "fee", "least"] (spOffInit cO cC) := by
  refine ok0 F scOffice_init (fun vs H Q E h => ?_) (fun cdv A outer s H vs Q E hr h => ?_)
  · obtain ⟨x, rt, C, dx, o, rfl, _⟩ := h
    rfl
  · obtain ⟨x, rt, C, dx, o, rfl, on, hC, hx, hrt, k⟩ := h
    have cl : Cls K C := by
      rcases hC with h | h <;> rw [h]
      · exact T.clO
      · exact T.clC
    have no : ∀ y ∈ (["name", "own_ends", "own_rate", "own_fee", "own_least"] : List Str), NoAttr K C y := fun y hy => by
      rcases hC with h | h <;> rw [h]
      · exact T.nO y hy
      · exact T.nC y (by simp only [List.mem_cons, List.not_mem_nil, or_false] at hy ⊢; rcases hy with h | h | h | h | h <;> simp [h])
    obtain ⟨uF, hF⟩ : ∃ u, Con K C "FEE" (.int 20) u := by
      rcases hC with h | h <;> rw [h]
      · exact T.oFEE
      · exact T.cFEE
    obtain ⟨uL, hL⟩ : ∃ u, Con K C "LEAST" (.int 1000) u := by
      rcases hC with h | h <;> rw [h]
      · exact T.oLEAST
      · exact T.cLEAST
    refine ⟨_, (pss_cons (ps_for PassesOwn.never rfl (pi_tup (pe_tup (pa_cons (pv 1) (pa_cons (pv 2) (pa_cons (pv 3) pa_nil))))) (pg_name (i := 7) scOffice_init.nd rfl (Or.inl rfl)) (pss_one (ps_expr (C8.pe_c c_need_name hr (by decide) (by rfl) (pa_cons (pv 7) pa_nil)))))
    (pss_cons (ps_if (pt_not (pt_val (C8.pe_c c_is_rate hr (by decide) (by rfl) (pa_cons (pv 4) pa_nil)))) (pss_one ps_never) pss_nil)
    (pss_cons (ps_expr (pe_ck c_need_integer hr (by decide) (by rfl) (pa_cons (pv 5) pa_nil) (pk_cons pe_int (pk_cons (pe_con (pv 0) rfl) pk_nil))))
    (pss_cons (ps_expr (pe_ck c_need_integer hr (by decide) (by rfl) (pa_cons (pv 6) pa_nil) (pk_cons pe_int (pk_cons (pe_con (pv 0) rfl) pk_nil))))
    (pss_cons (ps_fld (pv 0) (pv 1) rfl)
    (pss_cons (ps_fld (pv 0) (pe_tup (pa_cons (pv 2) (pa_cons (pv 3) pa_nil))) rfl)
    (pss_cons (ps_fld (pv 0) (pv 4) rfl)
    (pss_cons (ps_fld (pv 0) (pv 5) rfl)
    (pss_one (ps_fld (pv 0) (pv 6) rfl)))))))))), ?_⟩
    refine ⟨_, rfl, _, rfl, _, rfl, (by show 3 ≤ sizeLine; decide), fun t ht => ?_⟩
    have s0 : Same H (upd H t (.tup [.str o.name, .str o.src, .str o.goal])) := same_put (Same.refl H) ht
    refine ⟨t, rfl, ⟨_, SqT.of upd_same⟩, for_it (walk_tup (K := K) (a := t) (xs := [.str o.name, .str o.src, .str o.goal])) (fun i σ H' => Same (upd H t (.tup [.str o.name, .str o.src, .str o.goal])) H' ∧ ∃ v, σ = [some (.ref x), some (.str o.name), some (.str o.src), some (.str o.goal), some (.ref rt), some (.int o.fee), some (.int o.least), v])
      ⟨Same.refl _, _, rfl⟩ (fun _ _ _ _ h => SqT.of (h.1 _ _ upd_same)) ?_ ?_⟩
    · rintro i y σ H1 H2 hi ⟨s1, v, rfl⟩ ⟨e2, hy⟩
      subst e2
      have hy2 : ∃ z : Str, y = .str z ∧ NameOk z := by
        match i, hy with
        | 0, hy => cases hy; exact ⟨_, rfl, on.nm⟩
        | 1, hy => cases hy; exact ⟨_, rfl, on.sn⟩
        | 2, hy => cases hy; exact ⟨_, rfl, on.gn⟩
        | (n + 3), hy => cases hy
      obtain ⟨z, rfl, hz⟩ := hy2
      exact ⟨_, rfl, z, rfl, hz, fun H' s' => ⟨s1.trans s', _, rfl⟩⟩
    · rintro σ H1 ⟨s1, v, rfl⟩
      have s2 : Same H H1 := s0.trans s1
      refine ⟨_, rfl, rt, o.p, o.q, rfl, s2 _ _ hrt, on.p1, on.p9, on.q1, on.q9, fun H2 s3 => ⟨_, rfl, iteF ?_⟩⟩
      have s4 : Same H H2 := s2.trans s3
      have hx2 := s4 _ _ hx
      refine ⟨_, rfl, _, rfl, x, C, dx, _, _, uF, rfl, hx2, cl, hF, rfl, rfl, rfl, o.fee, 0, 20, rfl, on.f0, on.f20, ?_⟩
      refine ⟨_, rfl, _, rfl, x, C, dx, _, _, uL, rfl, hx2, cl, hL, rfl, rfl, rfl, o.least, 0, 1000, rfl, on.l0, on.l1, ?_⟩
      refine ⟨_, rfl, _, rfl, x, C, dx, _, rfl, hx2, cl, no _ (by simp), (by show 0 < 1000; decide), ?_⟩
      refine ⟨_, rfl, _, rfl, (by show 2 ≤ sizeLine; decide), fun e he => ?_⟩
      have hex : e ≠ x := fun z => by rw [z, upd_same] at he; cases he
      have he2 : H2 e = none := by rw [upd_ne hex] at he; exact he
      refine ⟨_, rfl, x, C, dx, _, rfl, (by rw [upd_ne hex.symm]; exact upd_same), cl, no _ (by simp), Nat.lt_of_le_of_lt (putF_len _ _ _) (by show 0 + 1 < 1000; decide), ?_⟩
      refine ⟨_, rfl, _, rfl, x, C, dx, _, rfl, upd_same, cl, no _ (by simp), Nat.lt_of_le_of_lt (Nat.le_trans (putF_len _ _ _) (Nat.succ_le_succ (putF_len _ _ _))) (by show 0 + 1 + 1 < 1000; decide), ?_⟩
      refine ⟨_, rfl, _, rfl, x, C, dx, _, rfl, upd_same, cl, no _ (by simp), Nat.lt_of_le_of_lt (Nat.le_trans (putF_len _ _ _) (Nat.succ_le_succ (Nat.le_trans (putF_len _ _ _) (Nat.succ_le_succ (putF_len _ _ _))))) (by show 0 + 1 + 1 + 1 < 1000; decide), ?_⟩
      refine ⟨_, rfl, _, rfl, x, C, dx, _, rfl, upd_same, cl, no _ (by simp), Nat.lt_of_le_of_lt (Nat.le_trans (putF_len _ _ _) (Nat.succ_le_succ (Nat.le_trans (putF_len _ _ _) (Nat.succ_le_succ (Nat.le_trans (putF_len _ _ _) (Nat.succ_le_succ (putF_len _ _ _))))))) (by show 0 + 1 + 1 + 1 + 1 < 1000; decide), ?_⟩
      refine k _ e (fun b u hb hu => ?_) ?_ upd_same
      · rw [upd_ne hb, upd_ne hb, upd_ne hb, upd_ne hb, upd_ne (ne_of_none (s4 _ _ hu) he2), upd_ne hb]
        exact s4 _ _ hu
      · rw [upd_ne hex, upd_ne hex, upd_ne hex, upd_ne hex, upd_same]
end
end Rd
end T_W3
section T_W4
set_option Elab.async false
set_option linter.all false
set_option maxRecDepth 100000
set_option maxHeartbeats 4000000
/-! Capped offices; a call of result; offices made by the law. -/
namespace Rd
open PySem PySem.Spec PyProof.Rows L2
def spCapInit (cC : Addr) : Sp := fun vs H Q _ => ∃ (x rt dx : Addr) (o : Off) (m : Int), vs = [.ref x, .str o.name, .str o.src, .str o.goal, .ref rt, .int m, .int o.fee, .int o.least] ∧ o.cap = some m ∧ OffN o ∧ H x = some (.ins cC dx []) ∧ H rt = some (.tup [.int o.p, .int o.q]) ∧
  ∀ H' e, (∀ b u, b ≠ x → H b = some u → H' b = some u) → H' e = some (.tup [.str o.src, .str o.goal]) → H' x = some (.ins cC dx (offFull o e rt)) → Q .non H'
def spCapRes (cO cC : Addr) : Sp := fun vs H Q _ => ∃ a o c m, vs = [.ref a, .int c] ∧ o.cap = some m ∧ OffAt cO cC H a o ∧ 1 ≤ o.p ∧ o.p ≤ 9 ∧ 1 ≤ o.q ∧ o.q ≤ 9 ∧ Q (ov (o.res c)) H
section
variable {P : Program} {w : World} {K : PySem.W.Frag} {mg : Str → Option Value} {base : Heap} {cO cC cM f g cc : Addr} {fd fdO : FuncData} {cdv : Value}
abbrev s_Cap_init : Stmt := inClass (top 37) 1
abbrev NCap_init : List Str := ["self", "name", "source", "goal", "rate", "most", "fee", "least"]
theorem scCap_init : SupScope NCap_init NCap_init (defScope s_Cap_init) := ⟨rfl, rfl, rfl, by decide +kernel, rfl, by decide +kernel, by decide +kernel, by decide +kernel, by decide +kernel, by decide +kernel⟩
abbrev s_Cap_result : Stmt := inClass (top 37) 4
abbrev NCap_result : List Str := ["self", "coins"]
theorem scCap_result : SupScope NCap_result NCap_result (defScope s_Cap_result) := ⟨rfl, rfl, rfl, by decide +kernel, rfl, by decide +kernel, by decide +kernel, by decide +kernel, by decide +kernel, by decide +kernel⟩
theorem ok_cap_result (FS : FunS P K "result" "CappedOffice.result" (defArgs s_Cap_result) (defBody s_Cap_result) (defScope s_Cap_result) [] cC f cc cdv fd) (T : Tx K mg cO cC cM) (M : SupM K cC cC g "result")
    (FO : FnOk P w K mg base CX0 1 g fdO ["self", "coins"] (spBase cO cC)) (bO : KBn K fdO ["self", "coins"] 2 [] (fun us ws => us ++ ws) (fun vs zs => vs ++ zs)) (htop : (P.main.scope.names.lookup ("super" : Str)).isSome = false) : FnOk P w K mg base CX0 2 f fd NCap_result (spCapRes cO cC) := by
  obtain ⟨oc, od, kV, doc, pm, an, ct, osl, efd, lk, _⟩ := id FS.ex
  obtain ⟨ccl, cld, csl, hcell⟩ := id FS.cell
  rw [efd] at lk ⊢
  refine fn_sup lk FS.code hcell scCap_result (fun vs H Q E h => ?_) fun A outer s H vs Q E hr h => ?_
  · obtain ⟨a, o, c, m, rfl, _⟩ := h
    rfl
  · obtain ⟨a, o, c, m, rfl, hc, ⟨dx, e, r, h1, h2, h3⟩, p1, p9, q1, q9, k⟩ := h
    have h4 : H a = some (.ins cC dx (offFull o e r)) := by rw [h3]; unfold clsOf; rw [hc]
    refine ⟨_, pssAt_one (psAt_ret (peAt_super (ks := []) (n := 1) (ar := ⟨"self", none, _⟩) rfl FS (by decide +kernel) (by decide +kernel) rfl (by decide +kernel) rfl T.clC M (by decide) htop T.b_super FO hr bO pass0
      (pa_cons (pe_callB (call_min2 rfl) (by rfl) T.b_min bt_min (pa_cons (pv 1) (pa_cons (pe_fld (pv 0) rfl) pa_nil))) pa_nil) pk_nil)), ?_⟩
    refine ⟨a, dx, _, rfl, h4, _, rfl, _, rfl, a, cC, dx, _, _, rfl, h4, T.clC, T.nC _ (by simp), ?_, c, m, rfl, rfl, rfl, a, o, o.cut c, ?_, ⟨dx, e, r, h1, h2, h3⟩, p1, p9, q1, q9, k⟩
    · unfold offFull
      rw [hc]
      show (putF _ _ _).lookup _ = _
      rw [lookup_putF, if_pos rfl]
    · unfold Off.cut
      rw [hc]
      rfl
theorem ok_cap_init (FS : FunS P K "__init__" "CappedOffice.__init__" (defArgs s_Cap_init) (defBody s_Cap_init) (defScope s_Cap_init) [("fee", .int 0), ("least", .int 0)] cC f cc cdv fd) (T : Tx K mg cO cC cM) (M : SupM K cC cC g "__init__")
    (FO : FnOk P w K mg base CX0 3 g fdO ["self", "name", "source", "goal", "rate", "fee", "least"] (spOffInit cO cC)) (bO : KBn K fdO ["self", "name", "source", "goal", "rate", "fee", "least"] 5 ["fee", "least"] (fun us ws => us ++ ws) (fun vs zs => vs ++ zs))
    (htop : (P.main.scope.names.lookup ("super" : Str)).isSome = false) (c_need_integer : CalK P w K mg base 2 "need_integer" 1 ["least", "most"] spNeedInt) : FnOk P w K mg base CX0 4 f fd NCap_init (spCapInit cC) := by
  obtain ⟨oc, od, kV, doc, pm, an, ct, osl, efd, lk, _⟩ := id FS.ex
  obtain ⟨ccl, cld, csl, hcell⟩ := id FS.cell
  rw [efd] at lk ⊢
  refine fn_sup lk FS.code hcell scCap_init (fun vs H Q E h => ?_) fun A outer s H vs Q E hr h => ?_
  · obtain ⟨x, rt, dx, o, m, rfl, _⟩ := h
    rfl
  · obtain ⟨x, rt, dx, o, m, rfl, hc, on, hx, hrt, k⟩ := h
    obtain ⟨uM, hM⟩ := T.cMOST
    refine ⟨_, pssAt_cons (psAt_expr (peAt_super (ks := ["fee", "least"]) (n := 4) (ar := ⟨"self", none, _⟩) rfl FS (by decide +kernel) (by decide +kernel) rfl (by decide +kernel) rfl T.clC M (by decide) htop T.b_super FO hr bO pass0
      (pa_cons (pv 1) (pa_cons (pv 2) (pa_cons (pv 3) (pa_cons (pv 4) pa_nil)))) (pk_cons (pv 6) (pk_cons (pv 7) pk_nil))))
      (pssAt_of (pss_cons (ps_expr (pe_ck c_need_integer hr (by decide) (by rfl) (pa_cons (pv 5) pa_nil) (pk_cons (pv 7) (pk_cons (pe_con (pv 0) rfl) pk_nil)))) (pss_one (ps_fld (pv 0) (pv 5) rfl)))), ?_⟩
    refine ⟨x, dx, _, rfl, hx, _, rfl, _, rfl, _, rfl, _, rfl, _, rfl, _, rfl, rfl, rfl, x, rt, cC, dx, o, rfl, on, .inr rfl, hx, hrt, fun H1 e k1 he hx1 => ?_⟩
    refine ⟨_, rfl, _, rfl, _, rfl, x, cC, dx, _, _, uM, rfl, hx1, T.clC, hM, offF_no _ _ _ (by decide +kernel) (by decide +kernel) (by decide +kernel) (by decide +kernel) (by decide +kernel), rfl, rfl, m, o.least, 1000000, rfl, (on.c m hc).1, (on.c m hc).2, ?_⟩
    refine ⟨_, rfl, _, rfl, x, cC, dx, _, rfl, hx1, T.clC, T.nC _ (by simp), ?_, ?_⟩
    · unfold offF
      exact Nat.lt_of_le_of_lt (Nat.le_trans (putF_len _ _ _) (Nat.succ_le_succ (Nat.le_trans (putF_len _ _ _) (Nat.succ_le_succ (Nat.le_trans (putF_len _ _ _) (Nat.succ_le_succ (Nat.le_trans (putF_len _ _ _) (Nat.succ_le_succ (putF_len _ _ _))))))))) (by show 0 + 1 + 1 + 1 + 1 + 1 < 1000; decide)
    · have hex : e ≠ x := ne_of he hx1 (by intro q; cases q)
      refine k _ e (fun b u hb hu => ?_) ?_ ?_
      · rw [upd_ne hb]
        exact k1 b u hb hu
      · rw [upd_ne hex]
        exact he
      · rw [upd_same]
        unfold offFull
        rw [hc]
end

/-! ### o.result(c), o of either class -/
structure ResB (P : Program) (w : World) (K : PySem.W.Frag) (mg : Str → Option Value) (base : Heap) (cO cC : Addr) (k : Nat) : Prop where
  o : ∃ (f : Addr) (fd : FuncData) (ps : List Str), Meth K cO "result" f ∧ FnOk P w K mg base CX0 k f fd ps (spBase cO cC) ∧ Binds K fd ps []
  c : ∃ (f : Addr) (fd : FuncData) (ps : List Str), Meth K cC "result" f ∧ FnOk P w K mg base CX0 k f fd ps (spCapRes cO cC) ∧ Binds K fd ps []
def tRes (cO cC : Addr) (to : TE) (t : TA) : TE := fun σ H Q => to σ H fun x H1 => ∃ a o, x = .ref a ∧ OffAt cO cC H1 a o ∧ 1 ≤ o.p ∧ o.p ≤ 9 ∧ 1 ≤ o.q ∧ o.q ≤ 9 ∧ t σ H1 fun vs H2 => ∃ c, vs = [.int c] ∧ OffAt cO cC H2 a o ∧ Q (ov (o.res c)) H2
section
variable {X : Cx} {k j : Nat} {cO cC cM : Addr} {e o : Expr} {es : List Expr} {pos apos : Pos} {to : TE} {t : TA}
theorem noResult (o : Off) (e r : Addr) : (offFull o e r).lookup ("result" : Str) = none := by
  rw [offFull_look (by decide +kernel)]
  exact offF_no _ _ _ (by decide +kernel) (by decide +kernel) (by decide +kernel) (by decide +kernel) (by decide +kernel)
theorem pe_res {pl : Sem Bool} (c : ResB X.prog X.w X.K X.mg X.base cO cC k) (T : Tx X.K X.mg cO cC cM) (hr : Room j X.A) (hk : k ≤ j) (he : PE X o to) (ha : PA X (e :: es) t)
    (hst : starEach (e :: es) X.env = (false, eval e X.env) :: starEach es X.env := by rfl) (hpl : (backTo pos (starEach es X.env)).any (·.1) = false := by rfl)
    (ht : eval (.Call (.Attribute o "result" apos) (e :: es) [] pos) X.env = (do
      let ov ← eval o X.env
      standAt apos.atName
      let (f, first) ← holding [ov] (getMethod ov "result" pl)
      callWith pos f first (backTo pos (starEach (e :: es) X.env)) (backToKw pos (keywordEach [] X.env))) := by rfl) :
    PE X (.Call (.Attribute o "result" apos) (e :: es) [] pos) (tRes cO cC to t) := by
  refine ⟨fun pins s σ H Q I h => ?_⟩
  refine PySem.W.methodCall_KW (pl := pl) (thn (he.run pins s σ H _ I h) fun u s1 ⟨x, H1, I1, rx, a, of, ex, ea, p1, p9, q1, q9, q⟩ => ?_) ht
  subst ex
  obtain rfl : u = Value.ref a := rx
  obtain ⟨dx, e1, r1, h1, h2, h3⟩ := id ea
  cases hc : of.cap with
  | none =>
    obtain ⟨f, fd, ps, hm, F, b⟩ := c.o
    have h4 : H1 a = some (.ins cO dx (offFull of e1 r1)) := by rw [h3]; unfold clsOf; rw [hc]
    refine getmeth_ok I1 h4 T.clO hm (noResult _ _ _) ?_
    refine PySem.W.callWith_K (first := [.ref a]) (h₀ := X.base) I.ok.mod.kin hm.kp (thn (ha.run pos pins s1 σ H1 _ I1 q) fun us s2 ⟨vs, H2, I2, r, c2, ev, ea2, q2⟩ => ⟨I2.kIn, ?_⟩) hst hpl
    subst ev
    refine run_fn (us := .ref a :: us) (vs := .ref a :: [.int c2]) F (hr.mono hk) b .nil pass0 I2 (.cons rfl r) ⟨a, of, c2, rfl, ea2, p1, p9, q1, q9, ?_⟩
    have e3 : of.res c2 = of.base c2 := by unfold Off.res Off.cut; rw [hc]
    rw [← e3]
    exact q2
  | some m =>
    obtain ⟨f, fd, ps, hm, F, b⟩ := c.c
    have h4 : H1 a = some (.ins cC dx (offFull of e1 r1)) := by rw [h3]; unfold clsOf; rw [hc]
    refine getmeth_ok I1 h4 T.clC hm (noResult _ _ _) ?_
    refine PySem.W.callWith_K (first := [.ref a]) (h₀ := X.base) I.ok.mod.kin hm.kp (thn (ha.run pos pins s1 σ H1 _ I1 q) fun us s2 ⟨vs, H2, I2, r, c2, ev, ea2, q2⟩ => ⟨I2.kIn, ?_⟩) hst hpl
    subst ev
    exact run_fn (us := .ref a :: us) (vs := .ref a :: [.int c2]) F (hr.mono hk) b .nil pass0 I2 (.cons rfl r) ⟨a, of, c2, m, rfl, hc, ea2, p1, p9, q1, q9, q2⟩
end
end Rd
end T_W4
section T_W5
set_option Elab.async false
set_option linter.all false
set_option maxRecDepth 100000
set_option maxHeartbeats 4000000
/-! Markets. -/
namespace Rd
open PySem PySem.Spec PyProof.Rows L2
theorem drop_min (xs : List V) (k : Nat) : xs.drop (min k xs.length) = xs.drop k := by
  by_cases h : k ≤ xs.length
  · rw [Nat.min_eq_left h]
  · rw [Nat.min_eq_right (by omega), List.drop_length, List.drop_eq_nil_of_le (by omega)]
theorem cutV_to (xs : List V) (k : Nat) : cutV xs none (some (k : Int)) = xs.take k := by
  unfold cutV
  rw [HT.sIx_none, HT.sIx_nat, List.drop_zero, Nat.sub_zero]
  by_cases h : k ≤ xs.length
  · rw [Nat.min_eq_left h]
  · rw [Nat.min_eq_right (by omega), List.take_length, List.take_of_length_le (by omega)]
theorem cutV_from (xs : List V) (k : Nat) : cutV xs (some (k : Int)) none = xs.drop k := by
  unfold cutV
  rw [HT.sIx_none, HT.sIx_nat, drop_min, List.take_of_length_le]
  rw [List.length_drop]
  omega
theorem cutV_mid (xs : List V) (k l : Nat) : cutV xs (some (k : Int)) (some ((k + l : Nat) : Int)) = (xs.drop k).take l := by
  unfold cutV
  rw [HT.sIx_nat, HT.sIx_nat, drop_min]
  by_cases h : k + l ≤ xs.length
  · rw [Nat.min_eq_left h, Nat.min_eq_left (by omega)]
    congr 1
    omega
  · by_cases h2 : k ≤ xs.length
    · rw [Nat.min_eq_right (by omega), Nat.min_eq_left h2, List.take_of_length_le (by rw [List.length_drop]; omega), List.take_of_length_le (by rw [List.length_drop]; omega)]
    · rw [List.drop_eq_nil_of_le (by omega), List.take_nil, List.take_nil]
theorem inV_str {z : Str} : ∀ {cs : List Str}, inV (.str z) (cs.map V.str) = decide (z ∈ cs)
  | [] => rfl
  | c :: cs => by
    have ih := @inV_str z cs
    unfold inV at ih ⊢
    rw [List.map_cons, List.any_cons, ih]
    have e : eqV (V.str c) (V.str z) = decide (z = c) := by
      show (c == z) = _
      rw [Bool.eq_iff_iff]
      simp
      exact eq_comm
    rw [e]
    simp [List.mem_cons, Bool.decide_or]
theorem flat_strs : ∀ cs : List Str, (cs.map V.str).all flatV = true
  | [] => rfl
  | c :: cs => by rw [List.map_cons, List.all_cons, flat_strs cs]; rfl
abbrev Po := Addr × Off
def OffsAt (cO cC : Addr) (H : Hp) (ps : List Po) : Prop := ∀ p ∈ ps, OffAt cO cC H p.1 p.2
def OffsOk (cs : List Str) (ps : List Po) : Prop := ∀ p ∈ ps, OffOk cs p.2
theorem OffsAt.same {cO cC : Addr} {H H' : Hp} {ps : List Po} (x : OffsAt cO cC H ps) (s : Same H H') : OffsAt cO cC H' ps := fun p hp => (x p hp).same s
abbrev refs (ps : List Po) : List V := ps.map fun p => V.ref p.1
/-- the market of the currencies cs and the offices ps stands at m -/
def MktAt (cO cC cM : Addr) (H : Hp) (m : Addr) (cs : List Str) (ps : List Po) : Prop :=
  ∃ dx fs ct ot, H m = some (.ins cM dx fs) ∧ fs.lookup ("own_currencies" : Str) = some (.ref ct) ∧ fs.lookup ("own_offices" : Str) = some (.ref ot) ∧ H ct = some (.tup (cs.map V.str)) ∧ H ot = some (.tup (refs ps)) ∧ OffsAt cO cC H ps
theorem MktAt.same {cO cC cM : Addr} {H H' : Hp} {m : Addr} {cs : List Str} {ps : List Po} (x : MktAt cO cC cM H m cs ps) (s : Same H H') : MktAt cO cC cM H' m cs ps :=
  let ⟨dx, fs, ct, ot, h1, h2, h3, h4, h5, h6⟩ := x
  ⟨dx, fs, ct, ot, s _ _ h1, h2, h3, s _ _ h4, s _ _ h5, h6.same s⟩
theorem Tx.isOf {K : PySem.W.Frag} {mg : Str → Option Value} {cO cC cM : Addr} (T : Tx K mg cO cC cM) {H : Hp} {a : Addr} {o : Off} (h : OffAt cO cC H a o) : ∃ t, TyX K H (.ref a) t ∧ PySem.W.kitOne K t (.ref cO) = some true := by
  obtain ⟨dx, e, r, _, _, h3⟩ := h
  cases hc : o.cap with
  | none =>
    have h4 : H a = some (.ins cO dx (offFull o e r)) := by rw [h3]; unfold clsOf; rw [hc]
    exact ⟨_, .base (TyOf.ins h4 T.iO.cl T.iO.ha T.iO.hn T.iO.htk T.iO.hm), T.iO.me⟩
  | some m =>
    have h4 : H a = some (.ins cC dx (offFull o e r)) := by rw [h3]; unfold clsOf; rw [hc]
    exact T.isC h4

def spNeedCurs : Sp := fun vs H Q _ => ∃ (a : Addr) (xs : List Str), vs = [.ref a] ∧ H a = some (.lst (xs.map V.str)) ∧ xs ≠ [] ∧ xs.length ≤ 4 ∧ (∀ x ∈ xs, NameOk x) ∧ xs.Nodup ∧ ∀ (H' : Hp) (t : Addr) (ys : List Str), Same H H' → H' t = some (.tup (ys.map V.str)) → ys.Perm xs → Q (.ref t) H'
def spNeedEnds (cO cC : Addr) : Sp := fun vs H Q _ => ∃ (ct a : Addr) (cs : List Str) (o : Off), vs = [.ref ct, .ref a] ∧ H ct = some (.tup (cs.map V.str)) ∧ OffAt cO cC H a o ∧ o.src ∈ cs ∧ o.goal ∈ cs ∧ ∀ H', Same H H' → Q .non H'
def spNeedOffs (cO cC : Addr) : Sp := fun vs H Q _ => ∃ (ct b : Addr) (cs : List Str) (ps : List Po), vs = [.ref ct, .ref b] ∧ H ct = some (.tup (cs.map V.str)) ∧ H b = some (.lst (refs ps)) ∧ OffsAt cO cC H ps ∧ OffsOk cs ps ∧ (ps.map fun p => p.2.name).Nodup ∧ ps.length ≤ 20 ∧
  ∀ (H' : Hp) (t : Addr) (qs : List Po), Same H H' → H' t = some (.tup (refs qs)) → (∀ q ∈ qs, q ∈ ps) → qs.length ≤ 20 → Q (.ref t) H'
section
variable {P : Program} {w : World} {K : PySem.W.Frag} {mg : Str → Option Value} {base : Heap} {cO cC cM f : Addr} {fd : FuncData}
abbrev s_need_currencies : Stmt := top 42
abbrev Nneed_currencies : List Str := ["values", "value", "index"]
theorem scneed_currencies : FnScope Nneed_currencies ["values"] (defScope s_need_currencies) := ⟨rfl, rfl, rfl, by decide +kernel, rfl, by decide +kernel, by decide +kernel⟩
theorem ok_need_currencies (F : FD K "need_currencies" s_need_currencies f fd) (T : Tx K mg cO cC cM) (c_is_list : C8.Cal P w K mg base 1 "is_list" spIsList []) (c_need_name : C8.Cal P w K mg base 2 "need_name" spNeedName []) : FnOk P w K mg base CX0 3 f fd ["values"] spNeedCurs := by
  refine ok0 F scneed_currencies (fun vs H Q E h => ?_) (fun cdv A outer s H vs Q E hr h => ?_)
  · obtain ⟨a, xs, rfl, _⟩ := h
    rfl
  · obtain ⟨a, xs, rfl, ha, hne, h4, hn, nd, k⟩ := h
    have hu := hu_of hr
    obtain ⟨mc, u, hR, hV⟩ := T.mCUR
    have hl : (xs.map V.str).length = xs.length := List.length_map ..
    have hpos : 0 < xs.length := List.length_pos_iff.mpr hne
    refine ⟨_, (pss_cons (ps_if (PW.pt (pw_or (pt_not (pt_val (C8.pe_c c_is_list hr (by decide) (by rfl) (pa_cons (pv 0) pa_nil)))) (pw_or1 (pt_cmpR op_eq (pe_callB call_len_seq (by rfl) T.b_len bt_len (pa_cons (pv 0) pa_nil)) pe_int (nomark _))))) (pss_one ps_never) pss_nil)
    (pss_cons (ps_for PassesOwn.never rfl (pi_list (pv 0)) (pg_name (i := 1) scneed_currencies.nd rfl (Or.inl rfl)) (pss_one (ps_expr (C8.pe_c c_need_name hr (by decide) (by rfl) (pa_cons (pv 1) pa_nil)))))
    (pss_cons (ps_for PassesOwn.never rfl (pi_enum (by rfl) T.b_enumerate (pa_cons (pv 0) pa_nil)) (pg_tup rfl (pgs_cons (pg_name (i := 2) scneed_currencies.nd rfl (Or.inl rfl)) (pgs_cons (pg_name (i := 1) scneed_currencies.nd rfl (Or.inl rfl)) pgs_nil))) (pss_one (ps_if (pt_cmpR op_in_seq (pv 1) (pe_slice sl_list (pv 0) po_none (po_some (pv 2))) (by rfl)) (pss_one ps_never) pss_nil)))
    (pss_cons (ps_if (pt_cmpR op_gt (pe_callB call_len_seq (by rfl) T.b_len bt_len (pa_cons (pv 0) pa_nil)) (pe_ccv (K := K) rfl (by rfl) T.m_Market) (nomark _)) (pss_one ps_never) pss_nil)
    (pss_one (ps_ret (pe_callTy call_tuple_of (by rfl) T.b_tuple bt_tuple (pa_cons (pe_callB cr_sortedS (by rfl) T.b_sorted bt_sorted (pa_cons (pv 0) pa_nil)) pa_nil)))))))), ?_⟩
    refine ⟨_, rfl, a, _, rfl, ha, fun H1 s1 => ⟨_, rfl, iteF ?_⟩⟩
    have ha1 := s1 _ _ ha
    refine ⟨_, rfl, _, _, rfl, .inl (SqL.of ha1), rfl, _, rfl, ?_⟩
    have e0 : decide (V.int ((xs.map V.str).length : Int) = V.int 0) = false := decide_eq_false (fun z => by have := V.int.inj z; omega)
    rw [e0]
    refine iteF ?_
    refine ⟨_, rfl, a, rfl, ⟨_, SqL.of ha1⟩, for_it (walk_list (K := K) (a := a) (xs := xs.map V.str)) (fun i σ H' => Same H H' ∧ ∃ v v', σ = [some (.ref a), v, v']) ⟨s1, _, _, rfl⟩ (fun _ _ _ _ h => SqL.of (h.1 _ _ ha)) ?_ ?_⟩
    · rintro i y σ H2 H3 hi ⟨s2, v, v', rfl⟩ ⟨e2, hy⟩
      subst e2
      obtain ⟨z, hz, rfl⟩ : ∃ z, z ∈ xs ∧ y = .str z := by
        obtain ⟨z, hz, e⟩ := List.mem_map.mp (List.mem_of_getElem? hy)
        exact ⟨z, hz, e.symm⟩
      exact ⟨_, rfl, z, rfl, hn z hz, fun H' s' => ⟨s2.trans s', _, _, rfl⟩⟩
    · rintro σ H2 ⟨s2, v, v', rfl⟩
      refine ⟨_, rfl, a, _, rfl, SqL.of (s2 _ _ ha), for_it (walk_enum (K := K) (a := a) (xs := xs.map V.str)) (fun i σ H' => Same H H' ∧ ∃ v v', σ = [some (.ref a), v, v']) ⟨s2, _, _, rfl⟩ (fun _ _ _ _ h => SqL.of (h.1 _ _ ha)) ?_ ?_⟩
      · rintro i y σ H3 H4 hi ⟨s3, v, v', rfl⟩ ⟨T1, x, y2, rfl, hT, e4, ei, ex⟩
        subst e4
        obtain rfl : x = .int (i : Nat) := (Option.some.inj ei).symm
        have s4 := same_put s3 (s3.free hT) (o := .tup [.int (i : Nat), y2])
        have ex : (xs.map V.str)[i]? = some y2 := ex
        rw [List.getElem?_map] at ex
        cases hz : xs[i]? with
        | none => rw [hz] at ex; cases ex
        | some z =>
          rw [hz] at ex
          obtain rfl : V.str z = y2 := Option.some.inj ex
          refine ⟨T1, _, rfl, SqT.of upd_same, rfl, _, _, rfl, _, _, rfl, rfl, ?_⟩
          refine ⟨_, rfl, _, rfl, _, rfl, _, rfl, a, _, rfl, SqL.of (s4 _ _ ha), fun p hp => ?_⟩
          rw [cutV_to, ← List.map_take]
          refine ⟨p, _, rfl, .inl (SqL.of upd_same), rfl, flat_strs _, _, rfl, ?_⟩
          have e5 : inV (.str z) ((xs.take i).map V.str) = false := by
            rw [inV_str, decide_eq_false]
            intro hm
            obtain ⟨j, hj⟩ := List.getElem?_of_mem hm
            rw [List.getElem?_take] at hj
            split at hj
            · rename_i hji
              have h1 := (List.getElem?_eq_some_iff.mp hj)
              have h2 := (List.getElem?_eq_some_iff.mp hz)
              obtain ⟨l1, e1⟩ := h1
              obtain ⟨l2, e2⟩ := h2
              exact absurd (e1.trans e2.symm) (List.pairwise_iff_getElem.mp nd j i l1 l2 hji)
            · cases hj
          show if inV (.str z) ((xs.take i).map V.str) = true then _ else _
          rw [e5]
          exact iteF ⟨same_put s4 (s4.free hp), _, _, rfl⟩
      · rintro σ H3 ⟨s3, v, v', rfl⟩
        refine ⟨_, rfl, _, _, rfl, .inl (SqL.of (s3 _ _ ha)), cM, mc, _, u, rfl, hR, hV, _, _, rfl, rfl, _, rfl, ?_⟩
        have e6 : decide ((((xs.map V.str).length : Nat) : Int) > 4) = false := decide_eq_false (by omega)
        rw [e6]
        refine iteF ⟨_, rfl, a, xs, rfl, SqL.of (s3 _ _ ha), by omega, fun ys p hp _ hpn => ?_⟩
        refine ⟨p, _, rfl, .inl ⟨SqL.of upd_same, fun l hl => ?_⟩⟩
        exact k _ l ys (same_put (same_put s3 (s3.free hpn)) ((same_put s3 (s3.free hpn)).free hl)) upd_same hp
abbrev s_need_ends : Stmt := top 43
abbrev Nneed_ends : List Str := ["currencies", "office", "end"]
theorem scneed_ends : FnScope Nneed_ends ["currencies", "office"] (defScope s_need_ends) := ⟨rfl, rfl, rfl, by decide +kernel, rfl, by decide +kernel, by decide +kernel⟩
theorem ok_need_ends {ks kg : Nat} (F : FD K "need_ends" s_need_ends f fd) (T : Tx K mg cO cC cM) (c_source : OffPr P w K mg base cO cC 1 "source" (fun o => .str o.src)) (c_goal : OffPr P w K mg base cO cC 1 "goal" (fun o => .str o.goal)) : FnOk P w K mg base CX0 3 f fd ["currencies", "office"] (spNeedEnds cO cC) := by
  refine ok0 F scneed_ends (fun vs H Q E h => ?_) (fun cdv A outer s H vs Q E hr h => ?_)
  · obtain ⟨ct, a, cs, o, rfl, _⟩ := h
    rfl
  · obtain ⟨ct, a, cs, o, rfl, hct, ha, hs, hg, k⟩ := h
    refine ⟨_, (pss_one (ps_for PassesOwn.never rfl (pi_tup (pe_tup (pa_cons (pe_off c_source T hr (by decide) (pv 1)) (pa_cons (pe_off c_goal T hr (by decide) (pv 1)) pa_nil)))) (pg_name (i := 2) scneed_ends.nd rfl (Or.inl rfl)) (pss_one (ps_if (pt_cmpR op_notIn_seq (pv 2) (pv 0) (by rfl)) (pss_one ps_never) pss_nil)))), ?_⟩
    refine ⟨_, rfl, a, o, rfl, ha, _, rfl, a, o, rfl, ha, (by show 2 ≤ sizeLine; decide), fun t ht => ?_⟩
    refine ⟨t, rfl, ⟨_, SqT.of upd_same⟩, for_it (walk_tup (K := K) (a := t) (xs := [.str o.src, .str o.goal])) (fun i σ H' => Same (upd H t (.tup [.str o.src, .str o.goal])) H' ∧ ∃ v, σ = [some (.ref ct), some (.ref a), v])
      ⟨Same.refl _, _, rfl⟩ (fun _ _ _ _ h => SqT.of (h.1 _ _ upd_same)) ?_ ?_⟩
    · rintro i y σ H1 H2 hi ⟨s1, v, rfl⟩ ⟨e2, hy⟩
      subst e2
      have hy2 : ∃ z : Str, y = .str z ∧ z ∈ cs := by
        match i, hy with
        | 0, hy => cases hy; exact ⟨_, rfl, hs⟩
        | 1, hy => cases hy; exact ⟨_, rfl, hg⟩
        | (n + 2), hy => cases hy
      obtain ⟨z, rfl, hz⟩ := hy2
      refine ⟨_, rfl, _, rfl, ct, _, rfl, .inr (SqT.of (s1 _ _ (same_put (Same.refl H) ht _ _ hct))), rfl, flat_strs _, _, rfl, ?_⟩
      have e5 : inV (.str z) (cs.map V.str) = true := by rw [inV_str, decide_eq_true hz]
      show if (!inV (.str z) (cs.map V.str)) = true then _ else _
      rw [e5]
      exact iteF ⟨s1, _, rfl⟩
    · rintro σ H1 ⟨s1, v, rfl⟩
      exact k _ ((same_put (Same.refl H) ht).trans s1)
end
end Rd
end T_W5
section T_W6
set_option Elab.async false
set_option linter.all false
set_option maxRecDepth 100000
set_option maxHeartbeats 4000000
/-! Markets made; holdings. -/
namespace Rd
open PySem PySem.Spec PyProof.Rows L2
def kvN (ps : List Po) : List (Key × V) := ps.map fun p => ((Sum.inr p.2.name : Key), V.ref p.1)
theorem kvN_none {ps : List Po} {y : Str} (h : y ∉ ps.map fun p => p.2.name) : valV (kvN ps) (Sum.inr y : Key) = none := by
  induction ps with
  | nil => rfl
  | cons d cs ih =>
    have e : ¬ d.2.name = y := fun z => h (by rw [List.map_cons, z]; exact List.mem_cons_self)
    rw [kvN, List.map_cons, valV_neg (p := ((Sum.inr d.2.name : Key), V.ref d.1)) (fun z => e (Sum.inr.inj z))]
    exact ih fun z => h (List.mem_cons_of_mem _ z)
theorem kvN_some {ps : List Po} {y : Str} (h : y ∈ ps.map fun p => p.2.name) : ∃ p ∈ ps, valV (kvN ps) (Sum.inr y : Key) = some (V.ref p.1) := by
  induction ps with
  | nil => cases h
  | cons d cs ih =>
    by_cases e : d.2.name = y
    · exact ⟨d, List.mem_cons_self, valV_pos (p := ((Sum.inr d.2.name : Key), V.ref d.1)) (congrArg Sum.inr e)⟩
    · rw [kvN, List.map_cons, valV_neg (p := ((Sum.inr d.2.name : Key), V.ref d.1)) (fun z => e (Sum.inr.inj z))]
      rw [List.map_cons] at h
      rcases List.mem_cons.mp h with z | z
      · exact absurd z.symm e
      · obtain ⟨p, hp, e2⟩ := ih z
        exact ⟨p, List.mem_cons_of_mem _ hp, e2⟩
theorem putK_len' (c : List (Key × V)) (k : Key) (x : V) : (putK c k x).length ≤ c.length + 1 := by
  unfold putK
  by_cases e : (c.any fun kv => decide (kv.1 = k)) = true
  · rw [if_pos e, List.length_map]
    omega
  · rw [if_neg e, List.length_append]
    exact Nat.le_refl _
theorem OffAt.name {cO cC cM : Addr} {K : PySem.W.Frag} {mg : Str → Option Value} (T : Tx K mg cO cC cM) {H : Hp} {a : Addr} {o : Off} (h : OffAt cO cC H a o) :
    ∃ (C dx : Addr) (fs : List (Str × V)), H a = some (.ins C dx fs) ∧ Cls K C ∧ NoAttr K C "name" ∧ fs.lookup ("name" : Str) = some (.str o.name) := by
  obtain ⟨dx, e, r, _, _, h3⟩ := h
  exact ⟨_, dx, _, h3, T.clOf o, T.noOf o (by simp), (offFull_look (by decide +kernel)).trans (offF_name _ _ _)⟩
def spMktInit (cO cC cM : Addr) : Sp := fun vs H Q _ => ∃ (x a b dx : Addr) (xs : List Str) (ps : List Po), vs = [.ref x, .ref a, .ref b] ∧ H x = some (.ins cM dx []) ∧ H a = some (.lst (xs.map V.str)) ∧ xs ≠ [] ∧ xs.length ≤ 4 ∧ (∀ x ∈ xs, NameOk x) ∧ xs.Nodup ∧
  H b = some (.lst (refs ps)) ∧ OffsAt cO cC H ps ∧ OffsOk xs ps ∧ (ps.map fun p => p.2.name).Nodup ∧ ps.length ≤ 20 ∧
  ∀ (H' : Hp) (cs : List Str) (qs : List Po), (∀ b u, b ≠ x → H b = some u → H' b = some u) → MktAt cO cC cM H' x cs qs → cs.Perm xs → (∀ q ∈ qs, q ∈ ps) → Q .non H'
def spNeedCur (cO cC cM : Addr) : Sp := fun vs H Q _ => ∃ (m : Addr) (z : Str) (cs : List Str) (ps : List Po), vs = [.ref m, .str z] ∧ MktAt cO cC cM H m cs ps ∧ z ∈ cs ∧ ∀ H', Same H H' → Q .non H'
def spNeedHold (cO cC cM : Addr) : Sp := fun vs H Q _ => ∃ (m t : Addr) (z : Str) (v : Int) (cs : List Str) (ps : List Po), vs = [.ref m, .ref t] ∧ MktAt cO cC cM H m cs ps ∧ H t = some (.tup [.str z, .int v]) ∧ NameOk z ∧ z ∈ cs ∧ 0 ≤ v ∧ v ≤ 10 ^ 30 ∧ ∀ H', Same H H' → Q (.ref t) H'
section
variable {P : Program} {w : World} {K : PySem.W.Frag} {mg : Str → Option Value} {base : Heap} {cO cC cM f : Addr} {fd : FuncData}
abbrev s_need_offices : Stmt := top 44
abbrev Nneed_offices : List Str := ["currencies", "values", "known", "value", "name"]
theorem scneed_offices : FnScope Nneed_offices ["currencies", "values"] (defScope s_need_offices) := ⟨rfl, rfl, rfl, by decide +kernel, rfl, by decide +kernel, by decide +kernel⟩
theorem ok_need_offices (F : FD K "need_offices" s_need_offices f fd) (T : Tx K mg cO cC cM) (c_is_list : C8.Cal P w K mg base 1 "is_list" spIsList []) (c_need_ends : C8.Cal P w K mg base 3 "need_ends" (spNeedEnds cO cC) []) : FnOk P w K mg base CX0 4 f fd ["currencies", "values"] (spNeedOffs cO cC) := by
  refine ok0 F scneed_offices (fun vs H Q E h => ?_) (fun cdv A outer s H vs Q E hr h => ?_)
  · obtain ⟨ct, b, cs, ps, rfl, _⟩ := h
    rfl
  · obtain ⟨ct, b, cs, ps, rfl, hct, hb, hat, hok, nd, h20, k⟩ := h
    have hu := hu_of hr
    obtain ⟨mc, u, hR, hV⟩ := T.mOFF
    refine ⟨_, (pss_cons (ps_if (pt_not (pt_val (C8.pe_c c_is_list hr (by decide) (by rfl) (pa_cons (pv 1) pa_nil)))) (pss_one ps_never) pss_nil)
    (pss_cons (ps_set (i := 2) scneed_offices.nd rfl (Or.inr rfl) pe_dnewK)
    (pss_cons (ps_for PassesOwn.never rfl (pi_list (pv 1)) (pg_name (i := 3) scneed_offices.nd rfl (Or.inl rfl)) (pss_cons (ps_if (pt_not (pt_val (pe_callB call_isi (by rfl) T.b_isinstance bt_isinstance (pa_cons (pv 3) (pa_cons (pe_glob (v := .ref cO) (by rfl) T.m_Office rfl) pa_nil))))) (pss_one ps_never) pss_nil)
      (pss_cons (ps_expr (C8.pe_c c_need_ends hr (by decide) (by rfl) (pa_cons (pv 0) (pa_cons (pv 3) pa_nil))))
      (pss_cons (ps_if (pt_cmp (pc_din hu (pe_fld (pv 3) rfl) (pv 2))) (pss_one ps_never) pss_nil)
      (pss_one (ps_dput hu (pv 2) (pe_fld (pv 3) rfl) (pv 3) rfl))))))
    (pss_cons (ps_if (pt_cmpR op_gt (pe_callB call_lenD (by rfl) T.b_len bt_len (pa_cons (pv 2) pa_nil)) (pe_ccv (K := K) rfl (by rfl) T.m_Market) (nomark _)) (pss_one ps_never) pss_nil)
    (pss_one (ps_ret (pe_callTy call_tuple_of (by rfl) T.b_tuple bt_tuple (pa_cons (pe_lc (own := [("name", 4)]) (g := gName 4) (tt := tYes) rfl scneed_offices.nd (pi_list (pe_callB (call_sortedD rfl) (by rfl) T.b_sorted bt_sorted (pa_cons (pv 2) pa_nil))) (blkOk_by (own := [("name", 4)]) (N := Nneed_offices) (sc := defScope s_need_offices) (by decide +kernel)) (fun _ _ _ _ _ => (pg_name (i := 4) scneed_offices.nd rfl (Or.inl rfl))) (fun _ _ _ _ _ => pts_nil) (fun _ _ _ _ _ => (pe_dget hu (pv 2) (pv 4) (fun _ _ => rfl)))) pa_nil)))))))), ?_⟩
    refine ⟨_, rfl, b, _, rfl, hb, fun H1 s1 => ⟨_, rfl, iteF ?_⟩⟩
    intro d hd
    refine ⟨_, rfl, b, rfl, ⟨_, SqL.of (same_put s1 (s1.free hd) _ _ hb)⟩, for_it (walk_list (K := K) (a := b) (xs := refs ps)) (fun i σ H' => Same H H' ∧ H' d = some (.dK (kvN (ps.take i))) ∧ ∃ v, σ = [some (.ref ct), some (.ref b), some (.ref d), v, none])
      ⟨same_put s1 (s1.free hd), upd_same, _, rfl⟩ (fun _ _ _ _ h => SqL.of (h.1 _ _ hb)) ?_ ?_⟩
    · rintro i y σ H2 H3 hi ⟨s2, hd2, v, rfl⟩ ⟨e2, hy⟩
      subst e2
      have hy : (refs ps)[i]? = some y := hy
      rw [List.getElem?_map] at hy
      cases hz : ps[i]? with
      | none => rw [hz] at hy; cases hy
      | some p =>
      rw [hz] at hy
      obtain rfl : V.ref p.1 = y := Option.some.inj hy
      have hp : p ∈ ps := List.mem_of_getElem? hz
      obtain ⟨t, ht, hk⟩ := T.isOf ((hat p hp).same s2)
      refine ⟨_, rfl, _, _, t, _, true, rfl, .own _, ht, hk, _, rfl, iteF ?_⟩
      refine ⟨_, rfl, _, rfl, ct, p.1, cs, p.2, rfl, s2 _ _ hct, (hat p hp).same s2, (hok p hp).s, (hok p hp).g, fun H4 s4 => ?_⟩
      have s5 := s2.trans s4
      obtain ⟨C, dx, fs, h1, h2, h3, h4⟩ := OffAt.name T ((hat p hp).same s5)
      have hil : i < ps.length := (List.getElem?_eq_some_iff.mp hz).1
      have hnew : valV (kvN (ps.take i)) (Sum.inr p.2.name : Key) = none := by
        refine kvN_none fun hm => ?_
        rw [List.map_take] at hm
        obtain ⟨j, hj⟩ := List.getElem?_of_mem hm
        rw [List.getElem?_take] at hj
        split at hj
        · rename_i hji
          obtain ⟨l1, e1⟩ := List.getElem?_eq_some_iff.mp hj
          have l2 : i < (ps.map fun p => p.2.name).length := by rw [List.length_map]; exact hil
          have e2 : (ps.map fun p => p.2.name)[i] = p.2.name := by
            rw [List.getElem_map]
            rw [(List.getElem?_eq_some_iff.mp hz).2]
          exact absurd (e1.trans e2.symm) (List.pairwise_iff_getElem.mp nd j i l1 l2 hji)
        · cases hj
      have hd4 := s4 _ _ hd2
      refine ⟨_, rfl, p.1, C, dx, fs, _, rfl, h1, h2, h3, h4, _, rfl, d, _, rfl, DGet.k (k := Sum.inr p.2.name) hd4, _, rfl, ?_⟩
      rw [hnew]
      refine iteF ⟨_, rfl, _, rfl, _, rfl, p.1, C, dx, fs, _, rfl, h1, h2, h3, h4, d, _, rfl, DPut.k (k := Sum.inr p.2.name) hd4 ?_, ?_⟩
      · unfold kvN
        rw [List.length_map, List.length_take]
        exact Nat.lt_of_le_of_lt (Nat.le_trans (Nat.min_le_right _ _) h20) (by decide)
      · refine ⟨same_put s5 (s1.free hd), ?_, _, rfl⟩
        rw [upd_same, putK_new _ hnew, List.take_succ, hz]
        unfold kvN
        rw [List.map_append]
        rfl
    · rintro σ H2 ⟨s2, hd2, v, rfl⟩
      have e1 : ps.take (refs ps).length = ps := by rw [List.length_map, List.take_length]
      rw [e1] at hd2
      refine ⟨_, rfl, d, _, rfl, hd2, cM, mc, _, u, rfl, hR, hV, _, _, rfl, rfl, _, rfl, ?_⟩
      have e6 : decide ((((kvN ps).length : Nat) : Int) > 20) = false := decide_eq_false (by unfold kvN; rw [List.length_map]; omega)
      rw [e6]
      refine iteF ⟨_, rfl, d, _, ps.map (fun p => p.2.name), rfl, Rd.of hd2, ?_, ?_, fun ys p hperm _ hp => ?_⟩
      · unfold kvN
        rw [List.map_map, List.map_map]
        rfl
      · rw [List.length_map]; omega
      have s3 := same_put s2 (s2.free hp) (o := .lst (ys.map V.str))
      have hd3 : (upd H2 p (.lst (ys.map V.str))) d = some (.dK (kvN ps)) := by rw [upd_ne (ne_of_none hd2 hp)]; exact hd2
      refine ⟨p, rfl, ⟨_, SqL.of upd_same⟩, fun D hD => lc_it (walk_list (K := K) (a := p) (xs := ys.map V.str)) (fun i H' => Same (upd H2 p (.lst (ys.map V.str))) H' ∧ ∃ qs : List Po, qs.length = i ∧ (∀ q ∈ qs, q ∈ ps) ∧ H' D = some (.lst (refs qs)))
        ⟨same_put (Same.refl _) hD, [], rfl, fun q hq => absurd hq List.not_mem_nil, upd_same⟩ (fun _ _ _ h => SqL.of (h.1 _ _ upd_same)) (fun i y H3 H4 hi ⟨s4, qs, hl, hq, e4⟩ ⟨e5, hy⟩ => ?_) fun H3 ⟨s4, qs, hl, hq, e4⟩ => ?_⟩
      · subst e5
        obtain ⟨z, hz, rfl⟩ := List.mem_map.mp (List.mem_of_getElem? hy)
        obtain ⟨q, hqp, ev⟩ := kvN_some (hperm.mem_iff.mp hz)
        have g := DGet.k (k := (Sum.inr z : Key)) (s4 _ _ hd3)
        rw [ev] at g
        refine ⟨rfl, yes_if ⟨_, rfl, _, rfl, d, _, rfl, g, _, e4, ?_, same_put s4 hD, qs ++ [q], ?_, ?_, ?_⟩⟩
        · rw [List.length_map, hl]
          have h2 : ys.length = (ps.map fun p => p.2.name).length := hperm.length_eq
          rw [List.length_map] at h2 hi
          exact Nat.lt_of_lt_of_le hi (Nat.le_trans (by omega) (by decide : 20 ≤ sizeLine))
        · rw [List.length_append, hl]; rfl
        · intro q' hq'
          rcases List.mem_append.mp hq' with h | h
          · exact hq q' h
          · rw [List.mem_singleton.mp h]; exact hqp
        · rw [upd_same]
          show some (HO.lst (refs qs ++ _)) = some (HO.lst ((qs ++ [q]).map _))
          rw [List.map_append]
          rfl
      · refine ⟨D, _, rfl, .inl ⟨SqL.of e4, fun l hl2 => ?_⟩⟩
        have s5 := s3.trans s4
        refine k _ l qs (same_put s5 (s5.free hl2)) upd_same hq ?_
        rw [hl, List.length_map, hperm.length_eq, List.length_map]
        exact h20
abbrev s_Market_init : Stmt := inClass (top 48) 2
abbrev NMarket_init : List Str := ["self", "currencies", "offices", "office"]
theorem scMarket_init : FnScope NMarket_init ["self", "currencies", "offices"] (defScope s_Market_init) := ⟨rfl, rfl, rfl, by decide +kernel, rfl, by decide +kernel, by decide +kernel⟩
theorem ok_mkt_init {dvs : List V} (F : FunD K "__init__" "Market.__init__" (defArgs s_Market_init) (defBody s_Market_init) (defScope s_Market_init) dvs [] f fd) (T : Tx K mg cO cC cM) (c_need_currencies : C8.Cal P w K mg base 3 "need_currencies" spNeedCurs []) (c_need_offices : C8.Cal P w K mg base 4 "need_offices" (spNeedOffs cO cC) []) :
    FnOk P w K mg base CX0 5 f fd ["self", "currencies", "offices"] (spMktInit cO cC cM) := by
  refine ok0 F scMarket_init (fun vs H Q E h => ?_) (fun cdv A outer s H vs Q E hr h => ?_)
  · obtain ⟨x, a, b, dx, xs, ps, rfl, _⟩ := h
    rfl
  · obtain ⟨x, a, b, dx, xs, ps, rfl, hx, ha, hne, h4, hn, nd, hb, hat, hok, ndp, h20, k⟩ := h
    have hu := hu_of hr
    have cl := T.clM
    refine ⟨_, (pss_cons (ps_fld (pv 0) (C8.pe_c c_need_currencies hr (by decide) (by rfl) (pa_cons (pv 1) pa_nil)) rfl)
    (pss_cons (ps_fld (pv 0) (C8.pe_c c_need_offices hr (by decide) (by rfl) (pa_cons (pe_fld (pv 0) rfl) (pa_cons (pv 2) pa_nil))) rfl)
    (pss_one (ps_fld (pv 0) (pe_dc (own := [("office", 3)]) (g := gName 3) (tt := tYes) rfl scMarket_init.nd (pi_tup (pe_fld (pv 0) rfl)) (blkOk_by (own := [("office", 3)]) (N := NMarket_init) (sc := defScope s_Market_init) (by decide +kernel)) (fun _ _ _ _ _ => (pg_name (i := 3) scMarket_init.nd rfl (Or.inl rfl))) (fun _ _ _ _ _ => pts_nil) (fun _ _ _ _ _ => (pe_fldK (K := K) rfl (pv 3) rfl)) (fun _ _ _ _ _ => (pv 3))) rfl)))), ?_⟩
    refine ⟨_, rfl, a, xs, rfl, ha, hne, h4, hn, nd, fun H1 t cs s1 ht hperm => ?_⟩
    refine ⟨_, rfl, x, cM, dx, _, rfl, s1 _ _ hx, cl, T.nM _ (by simp), (by show 0 < 1000; decide), ?_⟩
    have htx : t ≠ x := ne_of ht (s1 _ _ hx) (by intro q; cases q)
    have hbx : b ≠ x := ne_of hb hx (by intro q; cases q)
    have pres : ∀ {H' : Hp} {p : Po}, OffAt cO cC H' p.1 p.2 → H' x = some (.ins cM dx []) → p.1 ≠ x → ∀ fs, OffAt cO cC (upd H' x (.ins cM dx fs)) p.1 p.2 := fun {H' p} h hx' hpx fs => by
      obtain ⟨dx2, e, r, h1, h2, h3⟩ := h
      exact ⟨dx2, e, r, by rw [upd_ne (ne_of h1 hx' (by intro q; cases q))]; exact h1, by rw [upd_ne (ne_of h2 hx' (by intro q; cases q))]; exact h2, by rw [upd_ne hpx]; exact h3⟩
    have pne : ∀ p ∈ ps, p.1 ≠ x := fun p hp z => by
      obtain ⟨dx2, e, r, h1, h2, h3⟩ := hat p hp
      rw [z, hx] at h3
      have h5 := HO.ins.inj (Option.some.inj h3)
      have h6 := congrArg (fun l : List (Str × V) => l.lookup ("own_rate" : Str)) h5.2.2
      have h7 : (offFull p.2 e r).lookup ("own_rate" : Str) = some (.ref r) := (offFull_look (by decide +kernel)).trans (offF_rate _ _ _)
      rw [h7] at h6
      cases h6
    refine ⟨_, rfl, x, cM, dx, _, _, rfl, upd_same, cl, T.nM _ (by simp), (by rw [lookup_putF, if_pos rfl]), _, rfl, t, b, cs, ps, rfl, (by rw [upd_ne htx]; exact ht), (by rw [upd_ne hbx]; exact s1 _ _ hb), fun p hp => pres ((hat p hp).same s1) (s1 _ _ hx) (pne p hp) _, fun p hp => ⟨(hok p hp).toOffN, hperm.mem_iff.mpr (hok p hp).s, hperm.mem_iff.mpr (hok p hp).g⟩, ndp, h20, fun H2 t2 qs s2 ht2 hq hq20 => ?_⟩
    have hx2 := s2 _ _ (upd_same (H := H1) (a := x) (o := .ins cM dx (putF "own_currencies" (.ref t) [])))
    have ht2x : t2 ≠ x := ne_of ht2 hx2 (by intro q; cases q)
    refine ⟨_, rfl, x, cM, dx, _, rfl, hx2, cl, T.nM _ (by simp), Nat.lt_of_le_of_lt (putF_len _ _ _) (by show 0 + 1 < 1000; decide), ?_⟩
    generalize hH3 : upd H2 x (.ins cM dx (putF "own_offices" (.ref t2) (putF "own_currencies" (.ref t) []))) = H3
    have hx3 : H3 x = some (.ins cM dx (putF "own_offices" (.ref t2) (putF "own_currencies" (.ref t) []))) := by rw [← hH3]; exact upd_same
    have ht3 : H3 t2 = some (.tup (refs qs)) := by rw [← hH3, upd_ne ht2x]; exact ht2
    have keep3 : ∀ b u, b ≠ x → H b = some u → H3 b = some u := fun b u hb hu => by
      rw [← hH3, upd_ne hb]
      refine s2 _ _ ?_
      rw [upd_ne hb]
      exact s1 _ _ hu
    have hct3 : H3 t = some (.tup (cs.map V.str)) := by
      rw [← hH3, upd_ne htx]
      refine s2 _ _ ?_
      rw [upd_ne htx]
      exact ht
    have hat3 : ∀ p ∈ ps, OffAt cO cC H3 p.1 p.2 := fun p hp => by
      obtain ⟨dx2, e, r, h1, h2, h3⟩ := hat p hp
      exact ⟨dx2, e, r, keep3 _ _ (ne_of h1 hx (by intro q; cases q)) h1, keep3 _ _ (ne_of h2 hx (by intro q; cases q)) h2, keep3 _ _ (pne p hp) h3⟩
    refine ⟨_, rfl, x, cM, dx, _, _, rfl, hx3, cl, T.nM _ (by simp), (by rw [lookup_putF, if_pos rfl]), t2, rfl, ⟨_, SqT.of ht3⟩, fun D hD => dc_tup (K := K) (a := t2) (xs := refs qs) (fun i H' => Same H3 H' ∧ ∃ kvs : List (Key × V), kvs.length ≤ i ∧ H' D = some (.dK kvs))
      ⟨same_put (Same.refl _) hD, [], Nat.le_refl _, upd_same⟩ (fun _ _ _ h => SqT.of (h.1 _ _ ht3)) (fun i y H4 hy ⟨s4, kvs, hl, hk⟩ => ?_) fun H4 ⟨s4, kvs, hl, hk⟩ => ?_⟩
    · obtain ⟨q, hqm, rfl⟩ := List.mem_map.mp (List.mem_of_getElem? hy)
      have hi : i < qs.length := by
        have := (List.getElem?_eq_some_iff.mp hy).1
        rw [List.length_map] at this
        exact this
      obtain ⟨C, dx2, fs2, g1, g2, g3, g4⟩ := OffAt.name T ((hat3 q (hq q hqm)).same s4)
      refine ⟨rfl, yes_if ⟨_, rfl, q.1, C, dx2, fs2, _, rfl, g1, g2, g3, g4, _, rfl, kvs, Sum.inr q.2.name, rfl, hk, ?_, same_put s4 hD, _, Nat.le_trans (putK_len' _ _ _) (Nat.succ_le_succ hl), upd_same⟩⟩
      exact Nat.lt_of_le_of_lt (Nat.le_trans hl (Nat.le_of_lt hi)) (Nat.lt_of_le_of_lt hq20 (by decide))
    · have hDx : D ≠ x := fun z => by rw [z, hx3] at hD; cases hD
      refine ⟨_, rfl, x, cM, dx, _, rfl, s4 _ _ hx3, cl, T.nM _ (by simp), Nat.lt_of_le_of_lt (Nat.le_trans (putF_len _ _ _) (Nat.succ_le_succ (putF_len _ _ _))) (by show 0 + 1 + 1 < 1000; decide), ?_⟩
      refine k _ cs qs (fun b u hb hu => ?_) ⟨dx, _, t, t2, upd_same, ?_, ?_, ?_, ?_, fun p hp => ?_⟩ hperm hq
      · rw [upd_ne hb]; exact s4 _ _ (keep3 _ _ hb hu)
      · rw [lookup_putF, if_neg (by decide +kernel), lookup_putF, if_neg (by decide +kernel), lookup_putF, if_pos rfl]
      · rw [lookup_putF, if_neg (by decide +kernel), lookup_putF, if_pos rfl]
      · rw [upd_ne htx]; exact s4 _ _ hct3
      · rw [upd_ne ht2x]; exact s4 _ _ ht3
      · obtain ⟨dx2, e, r, h1, h2, h3⟩ := (hat3 p (hq p hp)).same s4
        have hx4 := s4 _ _ hx3
        exact ⟨dx2, e, r, by rw [upd_ne (ne_of h1 hx4 (by intro q; cases q))]; exact h1, by rw [upd_ne (ne_of h2 hx4 (by intro q; cases q))]; exact h2, by rw [upd_ne (pne p (hq p hp))]; exact h3⟩
end
end Rd
end T_W6
section T_W7
set_option Elab.async false
set_option linter.all false
set_option maxRecDepth 100000
set_option maxHeartbeats 4000000
/-! Levels. -/
namespace Rd
open PySem PySem.Spec PyProof.Rows L2 GenW
def stepO (L F : Lev) (o : Off) : Lev := match o.res (L o.src) with
  | none => F
  | some c => if c > F o.goal then put F o.goal c else F
def stepL (os : List Off) (L : Lev) : Lev := os.foldl (stepO L) L
def lev (os : List Off) (L : Lev) : Nat → Lev
  | 0 => L
  | n + 1 => stepL os (lev os L n)
def start1 (z : Str) (v : Int) : Lev := put (fun _ => -1) z v
abbrev offs (ps : List Po) : List Off := ps.map fun p => p.2
def spFirst (cO cC cM : Addr) : Sp := fun vs H Q _ => ∃ (m t : Addr) (z : Str) (v : Int) (cs : List Str) (ps : List Po), vs = [.ref m, .ref t] ∧ MktAt cO cC cM H m cs ps ∧ H t = some (.tup [.str z, .int v]) ∧ z ∈ cs ∧ cs.Nodup ∧ cs.length ≤ 4 ∧
  ∀ (H' : Hp) (d : Addr), Same H H' → H d = none → H' d = some (.dK (kvOf cs (start1 z v))) → Q (.ref d) H'
def spAfter (cO cC cM : Addr) : Sp := fun vs H Q _ => ∃ (m d : Addr) (cs : List Str) (ps : List Po) (L : Lev), vs = [.ref m, .ref d] ∧ MktAt cO cC cM H m cs ps ∧ OffsOk cs ps ∧ cs.length ≤ 4 ∧ H d = some (.dK (kvOf cs L)) ∧
  ∀ (H' : Hp) (d' : Addr), Same H H' → H d' = none → H' d' = some (.dK (kvOf cs (stepL (offs ps) L))) → Q (.ref d') H'
section
variable {P : Program} {w : World} {K : PySem.W.Frag} {mg : Str → Option Value} {base : Heap} {cO cC cM f : Addr} {fd : FuncData}
abbrev s_Market_currencies : Stmt := inClass (top 48) 9
abbrev NMarket_currencies : List Str := ["self"]
theorem scMarket_currencies : FnScope NMarket_currencies ["self"] (defScope s_Market_currencies) := ⟨rfl, rfl, rfl, by decide +kernel, rfl, by decide +kernel, by decide +kernel⟩
abbrev s_Market_offices : Stmt := inClass (top 48) 10
abbrev NMarket_offices : List Str := ["self"]
theorem scMarket_offices : FnScope NMarket_offices ["self"] (defScope s_Market_offices) := ⟨rfl, rfl, rfl, by decide +kernel, rfl, by decide +kernel, by decide +kernel⟩
theorem ok_currencies (F : FC K "currencies" "Market.currencies" s_Market_currencies f fd) (T : Tx K mg cO cC cM) : FnOk P w K mg base CX0 1 f fd ["self"] (getSp cM "own_currencies") := by
  refine ok0 F scMarket_currencies (fun vs H Q E h => ?_) (fun cdv A outer s H vs Q E hr h => ?_)
  · obtain ⟨a, dx, fs, v, rfl, _⟩ := h
    rfl
  · obtain ⟨a, dx, fs, v, rfl, h1, h2, k⟩ := h
    refine ⟨_, (pss_one (ps_ret (pe_fld (pv 0) rfl))), ?_⟩
    exact ⟨_, rfl, a, cM, dx, fs, _, rfl, h1, T.clM, T.nM _ (by simp), h2, k⟩
theorem ok_offices (F : FC K "offices" "Market.offices" s_Market_offices f fd) (T : Tx K mg cO cC cM) : FnOk P w K mg base CX0 1 f fd ["self"] (getSp cM "own_offices") := by
  refine ok0 F scMarket_offices (fun vs H Q E h => ?_) (fun cdv A outer s H vs Q E hr h => ?_)
  · obtain ⟨a, dx, fs, v, rfl, _⟩ := h
    rfl
  · obtain ⟨a, dx, fs, v, rfl, h1, h2, k⟩ := h
    refine ⟨_, (pss_one (ps_ret (pe_fld (pv 0) rfl))), ?_⟩
    exact ⟨_, rfl, a, cM, dx, fs, _, rfl, h1, T.clM, T.nM _ (by simp), h2, k⟩
abbrev s_need_currency : Stmt := top 26
abbrev Nneed_currency : List Str := ["market", "value"]
theorem scneed_currency : FnScope Nneed_currency ["market", "value"] (defScope s_need_currency) := ⟨rfl, rfl, rfl, by decide +kernel, rfl, by decide +kernel, by decide +kernel⟩
theorem ok_need_currency (F : FD K "need_currency" s_need_currency f fd) (T : Tx K mg cO cC cM) (c_currencies : PrB P w K mg base 1 cM "currencies" (getSp cM "own_currencies")) : FnOk P w K mg base CX0 3 f fd ["market", "value"] (spNeedCur cO cC cM) := by
  refine ok0 F scneed_currency (fun vs H Q E h => ?_) (fun cdv A outer s H vs Q E hr h => ?_)
  · obtain ⟨m, z, cs, ps, rfl, _⟩ := h
    rfl
  · obtain ⟨m, z, cs, ps, rfl, ⟨dx, fs, ct, ot, h1, h2, h3, h4, h5, h6⟩, hz, k⟩ := h
    refine ⟨_, (pss_one (ps_if (PW.pt (pw_or (pt_not (pt_val (pe_callB call_isi (by rfl) T.b_isinstance bt_isinstance (pa_cons (pv 1) (pa_cons (pe_bltn (v := .ty "str") (by rfl) T.b_str bt_str rfl) pa_nil))))) (pw_or1 (pt_cmpR op_notIn_seq (pv 1) (pe_pr c_currencies T.clM hr (by decide) (pv 0)) (by rfl))))) (pss_one ps_never) pss_nil)), ?_⟩
    refine ⟨_, rfl, _, _, _, _, true, rfl, .ty _, .base (.str _), kit_ty (by decide +kernel), _, rfl, iteF ?_⟩
    refine ⟨_, rfl, _, rfl, m, dx, fs, rfl, h1, m, dx, fs, _, rfl, h1, h2, ct, _, rfl, .inr (SqT.of h4), rfl, flat_strs _, _, rfl, ?_⟩
    have e5 : inV (.str z) (cs.map V.str) = true := by rw [inV_str, decide_eq_true hz]
    show if (!inV (.str z) (cs.map V.str)) = true then _ else _
    rw [e5]
    exact iteF (k H (Same.refl H))
abbrev s_need_holding : Stmt := top 27
abbrev Nneed_holding : List Str := ["market", "value"]
theorem scneed_holding : FnScope Nneed_holding ["market", "value"] (defScope s_need_holding) := ⟨rfl, rfl, rfl, by decide +kernel, rfl, by decide +kernel, by decide +kernel⟩
theorem ok_need_holding (F : FD K "need_holding" s_need_holding f fd) (T : Tx K mg cO cC cM) (c_is_pair : C8.Cal P w K mg base 3 "is_pair" spIsPair []) (c_need_currency : C8.Cal P w K mg base 3 "need_currency" (spNeedCur cO cC cM) []) : FnOk P w K mg base CX0 4 f fd ["market", "value"] (spNeedHold cO cC cM) := by
  refine ok0 F scneed_holding (fun vs H Q E h => ?_) (fun cdv A outer s H vs Q E hr h => ?_)
  · obtain ⟨m, t, z, v, cs, ps, rfl, _⟩ := h
    rfl
  · obtain ⟨m, t, z, v, cs, ps, rfl, hm, ht, hn, hz, v0, v1, k⟩ := h
    refine ⟨_, (pss_cons (ps_if (pt_not (pt_val (C8.pe_c c_is_pair hr (by decide) (by rfl) (pa_cons (pv 1) pa_nil)))) (pss_one ps_never) pss_nil)
    (pss_cons (ps_expr (C8.pe_c c_need_currency hr (by decide) (by rfl) (pa_cons (pv 0) (pa_cons (pe_ix ix_tup (pv 1) pe_int (fun _ _ => rfl)) pa_nil))))
    (pss_one (ps_ret (pv 1))))), ?_⟩
    refine ⟨_, rfl, t, z, v, rfl, ht, hn, v0, v1, fun H1 s1 => ⟨_, rfl, iteF ?_⟩⟩
    refine ⟨_, rfl, _, rfl, t, _, _, _, rfl, rfl, SqT.of (s1 _ _ ht), atI_nat (by rfl), m, z, cs, ps, rfl, hm.same s1, hz, fun H2 s2 => ?_⟩
    exact ⟨_, rfl, k H2 (s1.trans s2)⟩
abbrev s_first_level : Stmt := top 30
abbrev Nfirst_level : List Str := ["market", "start", "level", "currency"]
theorem scfirst_level : FnScope Nfirst_level ["market", "start"] (defScope s_first_level) := ⟨rfl, rfl, rfl, by decide +kernel, rfl, by decide +kernel, by decide +kernel⟩
theorem ok_first_level (F : FD K "first_level" s_first_level f fd) (T : Tx K mg cO cC cM) (c_currencies : PrB P w K mg base 1 cM "currencies" (getSp cM "own_currencies")) : FnOk P w K mg base CX0 3 f fd ["market", "start"] (spFirst cO cC cM) := by
  refine ok0 F scfirst_level (fun vs H Q E h => ?_) (fun cdv A outer s H vs Q E hr h => ?_)
  · obtain ⟨m, t, z, v, cs, ps, rfl, _⟩ := h
    rfl
  · obtain ⟨m, t, z, v, cs, ps, rfl, ⟨dx, fs, ct, ot, h1, h2, h3, h4, h5, h6⟩, ht, hz, nd, l4, k⟩ := h
    have hu := hu_of hr
    refine ⟨_, (pss_cons (ps_setDc (i := 2) (own := [("currency", 3)]) (g := gName 3) (tt := tYes) rfl scfirst_level.nd rfl rfl (sw_trueD rfl rfl rfl (by decide +kernel)) (pi_tup (pe_pr c_currencies T.clM hr (by decide) (pv 0))) (blkOk_by (own := [("currency", 3)]) (N := Nfirst_level) (sc := defScope s_first_level) (by decide +kernel)) (fun _ _ _ _ _ => (pg_name (i := 3) scfirst_level.nd rfl (Or.inl rfl))) (fun _ _ _ _ _ => pts_nil) (fun _ _ _ _ _ => (pv 3)) (fun _ _ _ _ _ => (C8.pe_gc (by rfl) T.g_NEVER)))
    (pss_cons (ps_dput hu (pv 2) (pe_ix ix_tup (pv 1) pe_int (fun _ _ => rfl)) (pe_ix ix_tup (pv 1) pe_int (fun _ _ => rfl)) rfl)
    (pss_one (ps_ret (pv 2))))), ?_⟩
    refine ⟨_, rfl, m, dx, fs, rfl, h1, m, dx, fs, _, rfl, h1, h2, ct, rfl, ⟨_, SqT.of h4⟩, fun D hD => dc_tup (K := K) (a := ct) (xs := cs.map V.str) (fun i H' => Same H H' ∧ H' D = some (.dK (kvOf (cs.take i) (fun _ => -1))))
      ⟨same_put (Same.refl _) hD, upd_same⟩ (fun _ _ _ h => SqT.of (h.1 _ _ h4)) (fun i y H1 hy ⟨s1, e1⟩ => ?_) fun H1 ⟨s1, e1⟩ => ?_⟩
    · rw [List.getElem?_map] at hy
      cases hc : cs[i]? with
      | none => rw [hc] at hy; cases hy
      | some c =>
      rw [hc] at hy
      obtain rfl : V.str c = y := Option.some.inj hy
      have hi : i < cs.length := (List.getElem?_eq_some_iff.mp hc).1
      have hnew : c ∉ cs.take i := fun hm => by
        obtain ⟨j, hj⟩ := List.getElem?_of_mem hm
        rw [List.getElem?_take] at hj
        split at hj
        · rename_i hji
          obtain ⟨l1, e1⟩ := List.getElem?_eq_some_iff.mp hj
          obtain ⟨l2, e2⟩ := List.getElem?_eq_some_iff.mp hc
          exact absurd (e1.trans e2.symm) (List.pairwise_iff_getElem.mp nd j i l1 l2 hji)
        · cases hj
      refine ⟨rfl, yes_if ⟨_, rfl, _, Sum.inr c, rfl, e1, ?_, same_put s1 hD, ?_⟩⟩
      · rw [kvOf_len, List.length_take]
        exact Nat.lt_of_le_of_lt (Nat.le_trans (Nat.min_le_right _ _) l4) (by decide)
      · rw [upd_same]
        have e := kvOf_snoc (L := fun _ => -1) hnew
        have e : putK (kvOf (cs.take i) fun _ => -1) (Sum.inr c) (V.int (-1)) = kvOf (cs.take i ++ [c]) fun _ => -1 := e
        rw [e, List.take_succ, hc]
        rfl
    · have e2 : cs.take (cs.map V.str).length = cs := by rw [List.length_map, List.take_length]
      rw [e2] at e1
      refine ⟨_, rfl, t, _, _, _, rfl, rfl, SqT.of (s1 _ _ ht), atI_nat (by rfl), _, rfl, _, rfl, t, _, _, _, rfl, rfl, SqT.of (s1 _ _ ht), atI_nat (by rfl), D, _, rfl, DPut.k (k := Sum.inr z) e1 (by rw [kvOf_len]; exact Nat.lt_of_le_of_lt l4 (by decide)), ?_⟩
      refine ⟨_, rfl, k _ D (same_put s1 hD) hD ?_⟩
      rw [upd_same, kvOf_put hz]
      rfl
abbrev s_level_after : Stmt := top 31
abbrev Nlevel_after : List Str := ["market", "level", "found", "office", "coins"]
theorem sclevel_after : FnScope Nlevel_after ["market", "level"] (defScope s_level_after) := ⟨rfl, rfl, rfl, by decide +kernel, rfl, by decide +kernel, by decide +kernel⟩
theorem ok_level_after (F : FD K "level_after" s_level_after f fd) (T : Tx K mg cO cC cM) (c_offices : PrB P w K mg base 1 cM "offices" (getSp cM "own_offices")) (c_source : OffPr P w K mg base cO cC 1 "source" (fun o => .str o.src)) (c_goal : OffPr P w K mg base cO cC 1 "goal" (fun o => .str o.goal)) (c_result : ResB P w K mg base cO cC 2) :
    FnOk P w K mg base CX0 3 f fd ["market", "level"] (spAfter cO cC cM) := by
  refine ok0 F sclevel_after (fun vs H Q E h => ?_) (fun cdv A outer s H vs Q E hr h => ?_)
  · obtain ⟨m, d, cs, ps, L, rfl, _⟩ := h
    rfl
  · obtain ⟨m, d, cs, ps, L, rfl, hm, hok, l4, hd, k⟩ := h
    obtain ⟨dx, fs, ct, ot, h1, h2, h3, h4, h5, h6⟩ := hm
    have hu := hu_of hr
    refine ⟨_, (pss_cons (ps_set (i := 2) sclevel_after.nd rfl (Or.inl rfl) (pe_callTy call_dictD (by rfl) T.b_dict bt_dict (pa_cons (pv 1) pa_nil)))
    (pss_cons (ps_for PassesOwn.never rfl (pi_tup (pe_pr c_offices T.clM hr (by decide) (pv 0))) (pg_name (i := 3) sclevel_after.nd rfl (Or.inl rfl)) (pss_cons (ps_set (i := 4) sclevel_after.nd rfl (Or.inl rfl) (pe_res c_result T hr (by decide) (pv 3) (pa_cons (pe_dget hu (pv 1) (pe_off c_source T hr (by decide) (pv 3)) (fun _ _ => rfl)) pa_nil)))
      (pss_one (ps_if (PW.pt (pw_and (pt_cmpR op_notN (pv 4) pe_non (nomark _)) (pw_and1 (pt_cmpR op_gt (pv 4) (pe_dget hu (pv 2) (pe_off c_goal T hr (by decide) (pv 3)) (fun _ _ => rfl)) (nomark _))))) (pss_one (ps_dput hu (pv 2) (pe_off c_goal T hr (by decide) (pv 3)) (pv 4) rfl)) pss_nil))))
    (pss_one (ps_ret (pv 2))))), ?_⟩
    refine ⟨_, rfl, d, _, rfl, Rd.of hd, fun p hp => ?_⟩
    have s0 := same_put (Same.refl H) hp (o := .dK (kvOf cs L))
    refine ⟨_, rfl, m, dx, fs, rfl, s0 _ _ h1, m, dx, fs, _, rfl, s0 _ _ h1, h3, ot, rfl, ⟨_, SqT.of (s0 _ _ h5)⟩, for_it (walk_tup (K := K) (a := ot) (xs := refs ps)) (fun i σ H' => Same H H' ∧ H' p = some (.dK (kvOf cs (((offs ps).take i).foldl (stepO L) L))) ∧ ∃ v v', σ = [some (.ref m), some (.ref d), some (.ref p), v, v'])
      ⟨s0, upd_same, _, _, rfl⟩ (fun _ _ _ _ h => SqT.of (h.1 _ _ h5)) ?_ ?_⟩
    · rintro i y σ H1 H2 hi ⟨s1, e1, v, v', rfl⟩ ⟨e2, hy⟩
      subst e2
      have hy : (refs ps)[i]? = some y := hy
      rw [List.getElem?_map] at hy
      cases hz : ps[i]? with
      | none => rw [hz] at hy; cases hy
      | some q =>
      rw [hz] at hy
      obtain rfl : V.ref q.1 = y := Option.some.inj hy
      have hq : q ∈ ps := List.mem_of_getElem? hz
      have ok := hok q hq
      have hat := (h6 q hq).same s1
      have hd1 := s1 _ _ hd
      have eT : (offs ps).take (i + 1) = (offs ps).take i ++ [q.2] := by
        rw [List.take_succ, List.getElem?_map, hz]
        rfl
      have gS := DGet.k (k := (Sum.inr q.2.src : Key)) hd1
      rw [kvOf_val ok.s] at gS
      refine ⟨_, rfl, q.1, q.2, rfl, hat, ok.p1, ok.p9, ok.q1, ok.q9, _, rfl, _, rfl, q.1, q.2, rfl, hat, d, _, rfl, gS, L q.2.src, rfl, hat, ?_⟩
      generalize hF : ((offs ps).take i).foldl (stepO L) L = Fi at e1
      have eF : ((offs ps).take (i + 1)).foldl (stepO L) L = stepO L Fi q.2 := by rw [eT, List.foldl_append, hF]; rfl
      have gG := DGet.k (k := (Sum.inr q.2.goal : Key)) e1
      rw [kvOf_val ok.g] at gG
      cases hres : q.2.res (L q.2.src) with
      | none =>
        refine ⟨_, rfl, rfl, _, rfl, iteF ⟨s1, ?_, _, _, rfl⟩⟩
        rw [eF, e1]
        unfold stepO
        rw [hres]
      | some c =>
        refine ⟨_, rfl, rfl, _, rfl, iteT ⟨_, rfl, _, rfl, _, rfl, q.1, q.2, rfl, hat, p, _, rfl, gG, _, _, rfl, rfl, _, rfl, ?_⟩⟩
        have eS : stepO L Fi q.2 = if c > Fi q.2.goal then put Fi q.2.goal c else Fi := by unfold stepO; rw [hres]
        by_cases hc : c > Fi q.2.goal
        · rw [decide_eq_true hc]
          refine iteT ⟨_, rfl, _, rfl, _, rfl, q.1, q.2, rfl, hat, p, _, rfl, DPut.k (k := Sum.inr q.2.goal) e1 (by rw [kvOf_len]; exact Nat.lt_of_le_of_lt l4 (by decide)), same_put s1 hp, ?_, _, _, rfl⟩
          rw [upd_same, eF, eS, if_pos hc]
          have e := kvOf_put (L := Fi) (v := c) ok.g
          show some (HO.dK (putK (kvOf cs Fi) (Sum.inr q.2.goal) (V.int c))) = _
          rw [e]
        · rw [decide_eq_false hc]
          refine iteF ⟨s1, ?_, _, _, rfl⟩
          rw [eF, eS, if_neg hc, e1]
    · rintro σ H1 ⟨s1, e1, v, v', rfl⟩
      have e2 : (offs ps).take (refs ps).length = offs ps := by rw [List.length_map, List.take_of_length_le (by rw [List.length_map]; exact Nat.le_refl _)]
      rw [e2] at e1
      exact ⟨_, rfl, k _ p s1 hp e1⟩
end
end Rd
end T_W7
section T_W8
set_option Elab.async false
set_option linter.all false
set_option maxRecDepth 100000
set_option maxHeartbeats 4000000
/-! The generator of levels; the law's look at them. -/
namespace Rd
open PySem PySem.Spec PyProof.Rows L2 GenW
/-- ds: one dict a level -/
def LevsAt (H : Hp) (cs : List Str) (os : List Off) (L : Lev) (ds : List Addr) : Prop := ∀ i d, ds[i]? = some d → H d = some (.dK (kvOf cs (lev os L i)))
def OutL (H : Hp) (cs : List Str) (os : List Off) (L : Lev) : List V → Hp → Prop := fun ys Hg => ∃ ds : List Addr, ys = ds.map V.ref ∧ Same H Hg ∧ LevsAt Hg cs os L ds ∧ ∀ d ∈ ds, H d = none
def spLevels (cO cC cM : Addr) : SpS := fun vs H Out => ∃ (m t : Addr) (z : Str) (v : Int) (cs : List Str) (ps : List Po), vs = [.ref m, .ref t] ∧ MktAt cO cC cM H m cs ps ∧ OffsOk cs ps ∧ H t = some (.tup [.str z, .int v]) ∧ NameOk z ∧ z ∈ cs ∧ cs.Nodup ∧ cs.length ≤ 4 ∧ 0 ≤ v ∧ v ≤ 10 ^ 30 ∧
  Out = OutL H cs (offs ps) (start1 z v)
def spAt (cO cC cM : Addr) : Sp := fun vs H Q _ => ∃ (m t : Addr) (z : Str) (v : Int) (n : Nat) (cs : List Str) (ps : List Po), vs = [.ref m, .ref t, .int n] ∧ n ≤ 100 ∧ MktAt cO cC cM H m cs ps ∧ OffsOk cs ps ∧ H t = some (.tup [.str z, .int v]) ∧ NameOk z ∧ z ∈ cs ∧ cs.Nodup ∧ cs.length ≤ 4 ∧ 0 ≤ v ∧ v ≤ 10 ^ 30 ∧
  ∀ (H' : Hp) (p : Addr) (ds : List Addr), Same H H' → H p = none → H' p = some (.lst (ds.map V.ref)) → ds.length = n + 1 → LevsAt H' cs (offs ps) (start1 z v) ds → (∀ d ∈ ds, H d = none) → Q (.ref p) H'
section
variable {P : Program} {w : World} {K : PySem.W.Frag} {mg : Str → Option Value} {base : Heap} {cO cC cM f : Addr} {fd : FuncData}
abbrev s_levels : Stmt := top 32
abbrev Nlevels : List Str := ["market", "holding", "level"]
theorem sclevels : GScope Nlevels ["market", "holding"] (defScope s_levels) := ⟨rfl, rfl, rfl, by decide +kernel, rfl, by decide +kernel, by decide +kernel⟩
theorem ok_levels (F : FD K "levels" s_levels f fd) (T : Tx K mg cO cC cM) (c_need_holding : C8.Cal P w K mg base 4 "need_holding" (spNeedHold cO cC cM) []) (c_first_level : C8.Cal P w K mg base 3 "first_level" (spFirst cO cC cM) []) (c_level_after : C8.Cal P w K mg base 3 "level_after" (spAfter cO cC cM) []) :
    GStep P w K mg base 5 f fd ["market", "holding"] (spLevels cO cC cM) := by
  obtain ⟨oc, od, dV, kV, doc, pm, an, cdv, ct, osl, rfl, lk, hcd, _, _⟩ := F.ex
  refine gstep_of (N := Nlevels) lk hcd sclevels (fun vs H Out h => ?_) fun A outer s H vs Out pn hr h => ?_
  · obtain ⟨m, t, z, v, cs, ps, rfl, _⟩ := h
    rfl
  · obtain ⟨m, t, z, v, cs, ps, rfl, hm, hok, ht, hz, hzc, nd, l4, v0, v1, rfl⟩ := h
    refine ⟨_, _, _, fun ys σ H' => ∃ (ds : List Addr) (d : Addr), σ = [some (.ref m), some (.ref t), some (.ref d)] ∧ ys = ds.map V.ref ∧ Same H H' ∧ LevsAt H' cs (offs ps) (start1 z v) ds ∧ (∀ d ∈ ds, H d = none) ∧ H' d = some (.dK (kvOf cs (lev (offs ps) (start1 z v) ds.length))) ∧ H d = none,
      pt_val pe_bl,
      ps_set (i := 2) sclevels.nd rfl (Or.inl rfl) (C8.pe_c c_first_level hr (by decide) (by rfl) (pa_cons (pv 0) (pa_cons (C8.pe_c c_need_holding hr (by decide) (by rfl) (pa_cons (pv 0) (pa_cons (pv 1) pa_nil))) pa_nil))),
      pe_callTy call_dictD (by rfl) T.b_dict bt_dict (pa_cons (pv 2) pa_nil),
      ps_set (i := 2) sclevels.nd rfl (Or.inl rfl) (C8.pe_c c_level_after hr (by decide) (by rfl) (pa_cons (pv 0) (pa_cons (pv 2) pa_nil))), ?_, ?_⟩
    · refine ⟨_, rfl, _, rfl, _, rfl, m, t, z, v, cs, ps, rfl, hm, ht, hz, hzc, v0, v1, fun H1 s1 => ?_⟩
      refine ⟨m, t, z, v, cs, ps, rfl, hm.same s1, s1 _ _ ht, hzc, nd, l4, fun H2 d s2 hd0 hd => ?_⟩
      exact ⟨[], d, rfl, rfl, s1.trans s2, fun i d hi => by simp at hi, fun d hd => absurd hd List.not_mem_nil, hd, s1.free hd0⟩
    · rintro ys σ H1 ⟨ds, d, rfl, rfl, s1, hL, hn, hd, hdn⟩
      refine ⟨_, rfl, d, _, rfl, Rd.of hd, fun p hp => ⟨fun b hb => ?_, ?_, ?_⟩⟩
      · by_cases e : b = p
        · rw [e]; exact hp
        · rw [upd_ne e] at hb; exact hb
      · refine ⟨ds ++ [p], by rw [List.map_append]; rfl, same_put s1 (s1.free hp), fun i d' hi => ?_, fun d' hd' => ?_⟩
        · rw [List.getElem?_append] at hi
          split at hi
          · have e1 := hL i d' hi
            rw [upd_ne (ne_of_none e1 hp)]
            exact e1
          · rename_i hlt
            have hi2 : i - ds.length = 0 := by
              cases hq : i - ds.length with
              | zero => rfl
              | succ k => rw [hq] at hi; simp at hi
            rw [hi2] at hi
            obtain rfl : p = d' := by simpa using hi
            have : i = ds.length := by omega
            rw [upd_same, this]
        · rcases List.mem_append.mp hd' with h | h
          · exact hn d' h
          · rw [List.mem_singleton.mp h]; exact s1.free hp
      · have s2 := same_put (Same.refl H1) hp (o := .dK (kvOf cs (lev (offs ps) (start1 z v) ds.length)))
        refine ⟨_, rfl, _, rfl, m, d, cs, ps, _, rfl, (hm.same s1).same s2, hok, l4, s2 _ _ hd, fun H2 d2 s3 hd20 hd2 => ?_⟩
        have s4 := s2.trans s3
        refine ⟨ds ++ [p], d2, rfl, by rw [List.map_append]; rfl, s1.trans s4, fun i d' hi => ?_, fun d' hd' => ?_, ?_, (s1.trans s2).free hd20⟩
        · rw [List.getElem?_append] at hi
          split at hi
          · exact s4 _ _ (hL i d' hi)
          · rename_i hlt
            have hi2 : i - ds.length = 0 := by
              cases hq : i - ds.length with
              | zero => rfl
              | succ k => rw [hq] at hi; simp at hi
            rw [hi2] at hi
            obtain rfl : p = d' := by simpa using hi
            have : i = ds.length := by omega
            rw [this]
            exact s3 _ _ upd_same
        · rcases List.mem_append.mp hd' with h | h
          · exact hn d' h
          · rw [List.mem_singleton.mp h]; exact s1.free hp
        · rw [hd2, List.length_append]
          rfl
abbrev s_law_at : Stmt := top 60
abbrev Nlaw_at : List Str := ["_law_market", "_law_holding", "_law_many", "_law_bound", "_law_k", "_law_level"]
theorem sclaw_at : FnScope Nlaw_at ["_law_market", "_law_holding", "_law_many"] (defScope s_law_at) := ⟨rfl, rfl, rfl, by decide +kernel, rfl, by decide +kernel, by decide +kernel⟩
theorem ok_law_at {fL : Addr} {fdL : FuncData} (F : FD K "_law_at" s_law_at f fd) (T : Tx K mg cO cC cM) (GL : GStep P w K mg base 5 fL fdL ["market", "holding"] (spLevels cO cC cM)) (bL : Binds K fdL ["market", "holding"] []) (gL : mg "levels" = some (.ref fL)) (kL : PySem.W.keepIn K (.ref fL) = true) :
    FnOk P w K mg base CX0 7 f fd ["_law_market", "_law_holding", "_law_many"] (spAt cO cC cM) := by
  refine ok0 F sclaw_at (fun vs H Q E h => ?_) (fun cdv A outer s H vs Q E hr h => ?_)
  · obtain ⟨m, t, z, v, n, cs, ps, rfl, _⟩ := h
    rfl
  · obtain ⟨m, t, z, v, n, cs, ps, rfl, hn, hm, hok, ht, hz, hzc, nd, l4, v0, v1, k⟩ := h
    refine ⟨_, (pss_cons (ps_set (i := 3) sclaw_at.nd rfl (Or.inl rfl) (pe_op op_add (pv 2) pe_int))
      (pss_one (ps_ret (pe_lczg (pv 3) (pa_cons (pv 0) (pa_cons (pv 1) pa_nil)) GL hr bL (by rfl) T.b_zip (by rfl) T.b_range (by rfl) gL kL (by decide +kernel) (by decide +kernel) (by decide +kernel) (by decide +kernel))))), ?_⟩
    refine ⟨_, rfl, _, _, rfl, rfl, _, rfl, n + 1, rfl, by omega, by omega, _, rfl, _, rfl, _, ⟨m, t, z, v, cs, ps, rfl, hm, hok, ht, hz, hzc, nd, l4, v0, v1, rfl⟩, ?_⟩
    rintro ys Hg p hl ⟨ds, rfl, s1, hL, hdn⟩ hp
    refine k _ p ds (same_put s1 (s1.free hp)) (s1.free hp) upd_same ?_ (fun i d hi => ?_) hdn
    · rw [List.length_map] at hl; exact hl
    · have e := hL i d hi
      rw [upd_ne (ne_of_none e hp)]
      exact e
end
end Rd
end T_W8
section T_W9
set_option Elab.async false
set_option linter.all false
set_option maxRecDepth 100000
set_option maxHeartbeats 4000000
/-! The pen. -/
namespace Rd
open PySem PySem.Spec PyProof.Rows L2
abbrev kC : Key := Sum.inr "cells"
abbrev kS : Key := Sum.inr "spot"
abbrev kR : Key := Sum.inr "rest"
def penD (cl : Addr) (s r : Int) : List (Key × V) := [(kC, .ref cl), (kS, .int s), (kR, .int r)]
theorem kcs : ¬ (kC = kS) := by decide +kernel
theorem kcr : ¬ (kC = kR) := by decide +kernel
theorem ksr : ¬ (kS = kR) := by decide +kernel
theorem krs : ¬ (kR = kS) := by decide +kernel
theorem pen_cells (cl : Addr) (s r : Int) : valV (penD cl s r) kC = some (.ref cl) := valV_pos rfl
theorem pen_spot (cl : Addr) (s r : Int) : valV (penD cl s r) kS = some (.int s) := by
  unfold penD
  rw [valV_neg kcs, valV_pos rfl]
theorem pen_rest (cl : Addr) (s r : Int) : valV (penD cl s r) kR = some (.int r) := by
  unfold penD
  rw [valV_neg kcr, valV_neg ksr, valV_pos rfl]
theorem pen_put_spot (cl : Addr) (s r s' : Int) : putK (penD cl s r) kS (.int s') = penD cl s' r := by
  unfold putK
  rw [valV_any, pen_spot, if_pos (show (some (V.int s)).isSome = true from rfl)]
  show [(if kC = kS then (kC, V.int s') else (kC, V.ref cl)), (if kS = kS then (kS, V.int s') else (kS, V.int s)), (if kR = kS then (kR, V.int s') else (kR, V.int r))] = _
  rw [if_neg kcs, if_pos rfl, if_neg krs]
  rfl
theorem pen_put_rest (cl : Addr) (s r r' : Int) : putK (penD cl s r) kR (.int r') = penD cl s r' := by
  unfold putK
  rw [valV_any, pen_rest, if_pos (show (some (V.int r)).isSome = true from rfl)]
  show [(if kC = kR then (kC, V.int r') else (kC, V.ref cl)), (if kS = kR then (kS, V.int r') else (kS, V.int s)), (if kR = kR then (kR, V.int r') else (kR, V.int r))] = _
  rw [if_neg kcr, if_neg ksr, if_pos rfl]
  rfl
def PenAt (H : Hp) (p cl : Addr) (n : Nat) : Prop := ∃ (ns : List Int) (s r : Int), H p = some (.dK (penD cl s r)) ∧ H cl = some (.lst (ns.map V.int)) ∧ 0 ≤ s ∧ s ≤ n ∧ 0 ≤ r
/-- all but the pen at p stands -/
def Ex (p : Addr) (H H' : Hp) : Prop := ∀ b o, b ≠ p → H b = some o → H' b = some o
theorem Ex.refl (p : Addr) (H : Hp) : Ex p H H := fun _ _ _ h => h
theorem Ex.trans {p : Addr} {H H1 H2 : Hp} (a : Ex p H H1) (b : Ex p H1 H2) : Ex p H H2 := fun c o hc h => b c o hc (a c o hc h)
theorem Ex.of {p : Addr} {H H' : Hp} (s : Same H H') : Ex p H H' := fun b o _ h => s b o h
theorem Ex.put {p : Addr} {H H' : Hp} {D : Addr} {o : HO} (s : Ex p H H') (n : D = p ∨ H D = none) : Ex p H (upd H' D o) := fun b u hb e => by
  rcases n with n | n
  · rw [upd_ne (n ▸ hb)]; exact s b u hb e
  · rw [upd_ne (fun z => by rw [z, n] at e; cases e)]; exact s b u hb e
theorem PenAt.same {H H' : Hp} {p cl : Addr} {n : Nat} (x : PenAt H p cl n) (s : Same H H') : PenAt H' p cl n :=
  let ⟨ns, sp, r, h1, h2, h3⟩ := x
  ⟨ns, sp, r, s _ _ h1, s _ _ h2, h3⟩
theorem PenAt.mono {H : Hp} {p cl : Addr} {n m : Nat} (x : PenAt H p cl n) (h : n ≤ m) : PenAt H p cl m :=
  let ⟨ns, sp, r, h1, h2, h3, h4, h5⟩ := x
  ⟨ns, sp, r, h1, h2, h3, by omega, h5⟩
theorem PenAt.has {H : Hp} {p cl : Addr} {n : Nat} (x : PenAt H p cl n) : ∃ o, H p = some o := let ⟨_, _, _, h1, _⟩ := x; ⟨_, h1⟩
theorem PenAt.ne {H : Hp} {p cl : Addr} {n : Nat} (x : PenAt H p cl n) {a : Addr} {o : HO} (h : H a = some o) (k : ∀ kvs, o ≠ .dK kvs) : a ≠ p := fun z => by
  obtain ⟨ns, s, r, h1, _⟩ := x
  rw [z, h1] at h
  exact k _ (Option.some.inj h).symm
theorem PenAt.nn {H : Hp} {p cl : Addr} {n : Nat} (x : PenAt H p cl n) {a : Addr} (h : H a = none) : a ≠ p := fun z => by
  obtain ⟨ns, s, r, h1, _⟩ := x
  rw [z, h1] at h
  cases h
theorem PenAt.nc {H : Hp} {p cl : Addr} {n : Nat} (x : PenAt H p cl n) {a : Addr} (h : H a = none) : a ≠ cl := fun z => by
  obtain ⟨ns, s, r, _, h1, _⟩ := x
  rw [z, h1] at h
  cases h
/-- an object that is not the pen's is put or written -/
theorem PenAt.put {H : Hp} {p cl : Addr} {n : Nat} (x : PenAt H p cl n) {a : Addr} {o : HO} (ha : a ≠ p) (hc : a ≠ cl) : PenAt (upd H a o) p cl n := by
  obtain ⟨ns, s, r, h1, h2, h3⟩ := x
  exact ⟨ns, s, r, by rw [upd_ne ha.symm]; exact h1, by rw [upd_ne hc.symm]; exact h2, h3⟩
theorem PenAt.new {H : Hp} {p cl : Addr} {n : Nat} (x : PenAt H p cl n) {a : Addr} {o : HO} (ha : H a = none) : PenAt (upd H a o) p cl n :=
  x.same (same_put (Same.refl H) ha)
theorem Ex.free {p cl : Addr} {H H' : Hp} {n : Nat} (e : Ex p H H') (x : PenAt H' p cl n) {l : Addr} (h : H' l = none) : H l = none := by
  cases hl : H l with
  | none => rfl
  | some o =>
    have hlp : l ≠ p := fun z => by
      obtain ⟨o', ho⟩ := x.has
      rw [z, ho] at h
      cases h
    rw [e l o hlp hl] at h
    cases h
def spPen (K : PySem.W.Frag) : Sp := fun vs H Q _ => ∃ (a : Addr) (ns : List Int), vs = [.ref a] ∧ SqL K H a (ns.map V.int) ∧ ∀ H' p cl, Same H H' → PenAt H' p cl 0 → Q (.ref p) H'
def spDraw : Sp := fun vs H Q _ => ∃ (p cl : Addr) (n : Int) (c : Nat), vs = [.ref p, .int n] ∧ PenAt H p cl c ∧ 1 ≤ n ∧ n ≤ 10000000 ∧ c ≤ 1000000 ∧ ∀ H' k, 0 ≤ k → k < n → Ex p H H' → PenAt H' p cl (c + 1) → Q (.int k) H'
section
variable {P : Program} {w : World} {K : PySem.W.Frag} {mg : Str → Option Value} {base : Heap} {cO cC cM f : Addr} {fd : FuncData}
abbrev s_law_pen : Stmt := top 50
abbrev Nlaw_pen : List Str := ["_law_script"]
theorem sclaw_pen : FnScope Nlaw_pen ["_law_script"] (defScope s_law_pen) := ⟨rfl, rfl, rfl, by decide +kernel, rfl, by decide +kernel, by decide +kernel⟩
theorem ok_law_pen (F : FD K "_law_pen" s_law_pen f fd) (T : Tx K mg cO cC cM) : FnOk P w K mg base CX0 1 f fd ["_law_script"] (spPen K) := by
  refine ok0 F sclaw_pen (fun vs H Q E h => ?_) (fun cdv A outer s H vs Q E hr h => ?_)
  · obtain ⟨a, ns, rfl, _⟩ := h
    rfl
  · obtain ⟨a, ns, rfl, ha, k⟩ := h
    have hu := hu_of hr
    refine ⟨_, (pss_one (ps_ret (pe_disp (pps_cons pe_str (pe_callTy call_list_of (by rfl) T.b_list bt_list (pa_cons (pe_slice sl_list (pv 0) po_none (po_some pe_int)) pa_nil)) (pps_cons pe_str pe_int (pps_cons pe_str pe_int pps_nil))) (by rfl) (by rfl) (fun z => by cases z) (by decide)))), ?_⟩
    intro p hp
    have s0 := same_put (Same.refl H) hp (o := .dK [])
    refine ⟨_, rfl, _, rfl, a, _, rfl, s0.seq ha, fun p1 hp1 => ⟨p1, _, rfl, .inl (SqL.of upd_same), fun l hl => ?_⟩⟩
    have s1 := same_put s0 (s0.free hp1) (o := .lst (cutV (ns.map V.int) none (some 63)))
    have s2 := same_put s1 (s1.free hl) (o := .lst (cutV (ns.map V.int) none (some 63)))
    have e1 : (upd (upd (upd H p (.dK [])) p1 (.lst (cutV (ns.map V.int) none (some 63)))) l (.lst (cutV (ns.map V.int) none (some 63)))) p = some (.dK []) := by
      have hpp : p ≠ p1 := fun z => by rw [← z, upd_same] at hp1; cases hp1
      have hpl : p ≠ l := fun z => by rw [← z, upd_ne hpp, upd_same] at hl; cases hl
      rw [upd_ne hpl, upd_ne hpp, upd_same]
    refine ⟨e1, penD l 0 0, rfl, (by show 3 ≤ 15; decide), ?_⟩
    have e2 : mergeK [] (penD l 0 0) = penD l 0 0 := by
      have h1 : valV (κ := Key) [] kC = none := rfl
      have h2 : valV [(kC, V.ref l)] kS = none := by rw [valV_neg kcs]; rfl
      have h3 : valV [(kC, V.ref l), (kS, V.int 0)] kR = none := by rw [valV_neg kcr, valV_neg ksr]; rfl
      show putK (putK (putK [] kC (V.ref l)) kS (V.int 0)) kR (V.int 0) = _
      rw [putK_new _ h1]
      show putK (putK [(kC, V.ref l)] kS (V.int 0)) kR (V.int 0) = _
      rw [putK_new _ h2]
      show putK [(kC, V.ref l), (kS, V.int 0)] kR (V.int 0) = _
      rw [putK_new _ h3]
      rfl
    rw [e2]
    have hlp : l ≠ p := fun z => by rw [z] at hl; rw [upd_ne (fun z2 => by rw [← z2, upd_same] at hp1; cases hp1)] at hl; rw [upd_same] at hl; cases hl
    refine k _ p l (same_put s2 hp) ⟨ns.take 63, 0, 0, upd_same, ?_, Int.le_refl _, Int.le_refl _, Int.le_refl _⟩
    rw [upd_ne hlp, upd_same, List.map_take]
    exact congrArg (fun x => some (HO.lst x)) (cutV_to (ns.map V.int) 63)
end
end Rd
end T_W9
section T_W10
set_option Elab.async false
set_option linter.all false
set_option maxRecDepth 100000
set_option maxHeartbeats 4000000
/-! The pen's draws. -/
namespace Rd
open PySem PySem.Spec PyProof.Rows L2
theorem pget_c {H : Hp} {p cl : Addr} {s r : Int} (h : H p = some (.dK (penD cl s r))) : DGet H p (.str "cells") (some (.ref cl)) := pen_cells cl s r ▸ DGet.k (k := kC) h
theorem pget_s {H : Hp} {p cl : Addr} {s r : Int} (h : H p = some (.dK (penD cl s r))) : DGet H p (.str "spot") (some (.int s)) := pen_spot cl s r ▸ DGet.k (k := kS) h
theorem pget_r {H : Hp} {p cl : Addr} {s r : Int} (h : H p = some (.dK (penD cl s r))) : DGet H p (.str "rest") (some (.int r)) := pen_rest cl s r ▸ DGet.k (k := kR) h
theorem pput_s {H : Hp} {p cl : Addr} {s r s' : Int} (h : H p = some (.dK (penD cl s r))) : DPut H p (.str "spot") (.int s') (upd H p (.dK (penD cl s' r))) := pen_put_spot cl s r s' ▸ DPut.k (k := kS) h (by show 3 < sizeLine; decide)
theorem pput_r {H : Hp} {p cl : Addr} {s r r' : Int} (h : H p = some (.dK (penD cl s r))) : DPut H p (.str "rest") (.int r') (upd H p (.dK (penD cl s r'))) := pen_put_rest cl s r r' ▸ DPut.k (k := kR) h (by show 3 < sizeLine; decide)
theorem mod_rng {a n : Int} (h : 1 ≤ n) : 0 ≤ a % n ∧ a % n < n := ⟨Int.emod_nonneg _ (by omega), Int.emod_lt_of_pos _ (by omega)⟩
section
variable {P : Program} {w : World} {K : PySem.W.Frag} {mg : Str → Option Value} {base : Heap} {cO cC cM f : Addr} {fd : FuncData}
abbrev s_law_draw : Stmt := top 51
abbrev Nlaw_draw : List Str := ["_law_pen_here", "_law_many", "_law_digit", "_law_spot", "_law_cell", "_law_mixed"]
theorem sclaw_draw : FnScope Nlaw_draw ["_law_pen_here", "_law_many"] (defScope s_law_draw) := ⟨rfl, rfl, rfl, by decide +kernel, rfl, by decide +kernel, by decide +kernel⟩
theorem ok_law_draw (F : FD K "_law_draw" s_law_draw f fd) (T : Tx K mg cO cC cM) : FnOk P w K mg base CX0 1 f fd ["_law_pen_here", "_law_many"] spDraw := by
  refine ok0 F sclaw_draw (fun vs H Q E h => ?_) (fun cdv A outer s H vs Q E hr h => ?_)
  · obtain ⟨p, cl, n, c, rfl, _⟩ := h
    rfl
  · obtain ⟨p, cl, n, c, rfl, ⟨ns, z, r, hp, hcl, z0, z1, r0⟩, n1, n2, hc, k⟩ := h
    have hu := hu_of hr
    have hclp : cl ≠ p := ne_of hcl hp (by intro q; cases q)
    refine ⟨_, (pss_cons (ps_if (pt_cmpR op_gt (pe_dget hu (pv 0) pe_str (fun _ _ => rfl)) pe_int (nomark _)) (pss_cons (ps_set (i := 2) sclaw_draw.nd rfl (Or.inl rfl) (pe_op op_mod (pe_callTy call_int1 (by rfl) T.b_int bt_int (pa_cons (pe_dget hu (pv 0) pe_str (fun _ _ => rfl)) pa_nil)) (pv 1)))
      (pss_cons (ps_dput hu (pv 0) pe_str (pe_op op_fdiv (pe_dget hu (pv 0) pe_str (fun _ _ => rfl)) (pv 1)) rfl)
      (pss_one (ps_ret (pv 2))))) pss_nil)
    (pss_cons (ps_par (i := 3) (j := 4) (by rfl) sclaw_draw.nd rfl rfl (by decide) rfl rfl (pa_cons (pe_dget hu (pv 0) pe_str (fun _ _ => rfl)) (pa_cons pe_int pa_nil)) (by rfl))
    (pss_cons (ps_dput hu (pv 0) pe_str (pe_op op_add (pv 3) pe_int) rfl)
    (C8.pss_cut (ps_if (pt_cmpR (op_neE hr.units0) (pe_dget hu (pv 0) pe_str (fun _ _ => rfl)) (pe_lst pa_nil) (nomark _)) (pss_one (ps_set (i := 4) sclaw_draw.nd rfl (Or.inl rfl) (pe_ix ix_list (pe_dget hu (pv 0) pe_str (fun _ _ => rfl)) (pe_op op_mod (pe_callTy call_int1 (by rfl) T.b_int bt_int (pa_cons (pv 3) pa_nil)) (pe_callB call_len_seq (by rfl) T.b_len bt_len (pa_cons (pe_dget hu (pv 0) pe_str (fun _ _ => rfl)) pa_nil))) (fun _ _ => rfl)))) pss_nil)
    (C8.pss_cut (ps_if (PW.pt (pw_and (pt_cmpR op_lt (pv 3) (pe_callB call_len_seq (by rfl) T.b_len bt_len (pa_cons (pe_dget hu (pv 0) pe_str (fun _ _ => rfl)) pa_nil)) (nomark _)) (pw_and1 (pt_cmpR op_ge (pe_callB call_abs (by rfl) T.b_abs bt_abs (pa_cons (pv 4) pa_nil)) (pe_op op_pow pe_int pe_int) (nomark _))))) (pss_cons (ps_dput hu (pv 0) pe_str (pe_op op_fdiv (pe_op op_sub (pe_callB call_abs (by rfl) T.b_abs bt_abs (pa_cons (pv 4) pa_nil)) (pe_op op_pow pe_int pe_int)) (pv 1)) rfl)
      (pss_one (ps_ret (pe_op op_mod (pe_op op_sub (pe_callB call_abs (by rfl) T.b_abs bt_abs (pa_cons (pv 4) pa_nil)) (pe_op op_pow pe_int pe_int)) (pv 1))))) pss_nil)
    (pss_cons (ps_set (i := 5) sclaw_draw.nd rfl (Or.inl rfl) (pe_op op_mul (pe_op op_add (pe_op op_add (pe_op op_add (pv 4) (pe_op op_mul (pe_op op_mul pe_int (pv 3)) (pv 3))) (pe_op op_mul pe_int (pv 3))) pe_int) pe_int))
    (pss_cons (ps_set (i := 5) sclaw_draw.nd rfl (Or.inl rfl) (pe_op op_mod (pe_callTy call_int1 (by rfl) T.b_int bt_int (pa_cons (pe_op op_add (pv 5) (pe_op op_mul pe_int (pe_op op_add (pv 3) pe_int))) pa_nil)) pe_int))
    (pss_cons (ps_set (i := 5) sclaw_draw.nd rfl (Or.inl rfl) (pe_op op_mod (pe_callTy call_int1 (by rfl) T.b_int bt_int (pa_cons (pe_op op_mul (pv 5) (pe_op op_add (pv 5) pe_int)) pa_nil)) pe_int))
    (pss_one (ps_ret (pe_op op_mod (pe_callTy call_int1 (by rfl) T.b_int bt_int (pa_cons (pe_op op_fdivW (pv 5) pe_int) pa_nil)) (pv 1)))))))))))), ?_⟩
    refine ⟨_, rfl, p, _, rfl, pget_r hp, _, _, rfl, rfl, _, rfl, ?_⟩
    by_cases hr0 : r > 0
    · rw [decide_eq_true hr0]
      refine iteT ⟨_, rfl, p, _, rfl, pget_r hp, .inl ⟨_, rfl, _, rfl, _, _, rfl, rfl, (by omega), ?_⟩⟩
      refine ⟨_, rfl, p, _, rfl, pget_r hp, _, rfl, _, _, rfl, rfl, ⟨by omega, by omega⟩, _, rfl, p, _, rfl, pput_r hp, _, rfl, ?_⟩
      refine k _ _ (mod_rng n1).1 (mod_rng n1).2 ((Ex.refl p H).put (.inl rfl)) ⟨ns, z, r / n, upd_same, by rw [upd_ne hclp]; exact hcl, z0, by omega, Int.ediv_nonneg r0 (by omega)⟩
    · rw [decide_eq_false hr0]
      refine iteF ⟨_, rfl, p, _, rfl, pget_s hp, _, _, rfl, ?_⟩
      refine ⟨_, rfl, _, _, rfl, rfl, _, rfl, p, _, rfl, pput_s hp, ?_⟩
      have hp1 : (upd H p (.dK (penD cl (z + 1) r))) p = some (.dK (penD cl (z + 1) r)) := upd_same
      have hcl1 : (upd H p (.dK (penD cl (z + 1) r))) cl = some (.lst (ns.map V.int)) := by rw [upd_ne hclp]; exact hcl
      have x1 : Ex p H (upd H p (.dK (penD cl (z + 1) r))) := (Ex.refl p H).put (.inl rfl)
      refine ⟨fun σ' H' => Ex p H H' ∧ H' p = some (.dK (penD cl (z + 1) r)) ∧ ∃ x : Int, σ' = [some (.ref p), some (.int n), none, some (.int z), some (.int x), none], ?_, ?_⟩
      · refine ⟨_, rfl, p, _, rfl, pget_c hp1, Nat.zero_le _, fun l hl => ⟨cl, l, _, rfl, rfl, SqL.of (by rw [upd_ne (ne_of_none hcl1 hl)]; exact hcl1), upd_same, _, rfl, ?_⟩⟩
        have hp2 : (upd (upd H p (.dK (penD cl (z + 1) r))) l (.lst [])) p = some (.dK (penD cl (z + 1) r)) := by rw [upd_ne (ne_of_none hp1 hl)]; exact hp1
        have hcl2 : (upd (upd H p (.dK (penD cl (z + 1) r))) l (.lst [])) cl = some (.lst (ns.map V.int)) := by rw [upd_ne (ne_of_none hcl1 hl)]; exact hcl1
        have hlp : l ≠ p := fun q => by rw [q, hp1] at hl; cases hl
        have x2 : Ex p H (upd (upd H p (.dK (penD cl (z + 1) r))) l (.lst [])) := x1.put (.inr (by rw [upd_ne hlp] at hl; exact hl))
        cases hns : ns with
        | nil => exact iteF ⟨x2, hp2, 0, rfl⟩
        | cons m ms =>
          rw [← hns]
          have hlen : 0 < ns.length := by rw [hns]; exact Nat.succ_pos _
          have e1 : (!((ns.map V.int).isEmpty)) = true := by rw [hns]; rfl
          rw [e1]
          have hm := mod_rng (a := z) (n := ((ns.map V.int).length : Int)) (by rw [List.length_map]; omega)
          have hm2 := hm.2
          rw [List.length_map] at hm2
          obtain ⟨x, hx⟩ : ∃ x, ns[(z % ((ns.map V.int).length : Int)).toNat]? = some x := ⟨_, List.getElem?_eq_getElem (by rw [List.length_map] at hm ⊢; omega)⟩
          have e2 : atI (ns.map V.int) (((z % ((ns.map V.int).length : Int)).toNat : Nat) : Int) = some (.int x) := atI_nat (by rw [List.getElem?_map, hx]; rfl)
          rw [Int.toNat_of_nonneg hm.1] at e2
          refine iteT ⟨_, rfl, p, _, rfl, pget_c hp2, _, rfl, .inl ⟨_, rfl, _, rfl, p, _, rfl, pget_c hp2, cl, _, rfl, .inl (SqL.of hcl2), _, _, rfl, rfl, (by rw [List.length_map]; omega), cl, _, _, _, rfl, rfl, SqL.of hcl2, e2, x2, hp2, x, rfl⟩⟩
      · rintro σ' H2 ⟨x2, hp2, x, rfl⟩
        have hcl2 : H2 cl = some (.lst (ns.map V.int)) := x2 _ _ hclp hcl
        have hq : CPow 10 18 := ⟨by decide, by decide, by decide⟩
        have fin : PenAt H2 p cl (c + 1) := ⟨ns, z + 1, r, hp2, hcl2, by omega, by omega, r0⟩
        have kk : ∀ y, 0 ≤ y → y < n → Q (.int y) H2 := fun y h1 h2 => k H2 y h1 h2 x2 fin
        refine ⟨fun σ' H' => H' = H2 ∧ σ' = [some (.ref p), some (.int n), none, some (.int z), some (.int x), none], ?_, ?_⟩
        · refine ⟨_, rfl, _, rfl, p, _, rfl, pget_c hp2, cl, _, rfl, .inl (SqL.of hcl2), _, _, rfl, rfl, _, rfl, ?_⟩
          by_cases hz : z < ((ns.map V.int).length : Int)
          · rw [decide_eq_true hz]
            refine iteT ⟨_, rfl, x, rfl, _, _, rfl, rfl, hq, _, _, rfl, rfl, _, rfl, ?_⟩
            by_cases hg : (if x < 0 then -x else x) ≥ 10 ^ (18 : Int).toNat
            · rw [decide_eq_true hg]
              refine iteT ⟨_, rfl, _, rfl, _, _, rfl, rfl, hq, _, _, rfl, rfl, _, rfl, _, _, rfl, rfl, ⟨by omega, by omega⟩, _, rfl, p, _, rfl, pput_r hp2, ?_⟩
              refine ⟨_, rfl, _, rfl, _, _, rfl, rfl, hq, _, _, rfl, rfl, _, rfl, _, _, rfl, rfl, (by omega), ?_⟩
              refine k _ _ (mod_rng n1).1 (mod_rng n1).2 (x2.put (.inl rfl)) ⟨ns, z + 1, _, upd_same, by rw [upd_ne hclp]; exact hcl2, by omega, by omega, Int.ediv_nonneg ?_ (by omega)⟩
              exact Int.sub_nonneg_of_le hg
            · rw [decide_eq_false hg]
              exact iteF ⟨rfl, rfl⟩
          · rw [decide_eq_false hz]
            exact iteF ⟨rfl, rfl⟩
        · rintro σ' H' ⟨rfl, rfl⟩
          have b1 : (-(2 : Int) ^ 64) < 83 ∧ (83 : Int) < 2 ^ 64 := by decide
          have b2 : (-(2 : Int) ^ 64) < z ∧ z < 2 ^ 64 := by constructor <;> omega
          have b3 : (-(2 : Int) ^ 64) < 41 ∧ (41 : Int) < 2 ^ 64 := by decide
          have b4 : (-(2 : Int) ^ 64) < 2862933555777941757 ∧ (2862933555777941757 : Int) < 2 ^ 64 := by decide
          have b5 : (-(2 : Int) ^ 64) < 3037000493 ∧ (3037000493 : Int) < 2 ^ 64 := by decide
          refine ⟨_, rfl, _, rfl, _, _, rfl, rfl, .inl b1, _, rfl, _, _, rfl, rfl, .inr b2, _, _, rfl, rfl, _, rfl, _, _, rfl, rfl, .inl b3, _, _, rfl, rfl, _, _, rfl, rfl, _, _, rfl, rfl, .inr b4, ?_⟩
          generalize (x + 83 * z * z + 41 * z + 7) * 2862933555777941757 = y1
          refine ⟨_, rfl, _, rfl, _, _, rfl, rfl, _, _, rfl, rfl, .inl b5, _, _, rfl, rfl, .inl ⟨_, rfl, _, _, rfl, rfl, (by show (0 : Int) < 18446744073709551533; decide), ?_⟩⟩
          have hy2 := mod_rng (a := y1 + 3037000493 * (z + 1)) (n := 18446744073709551533) (by decide)
          generalize (y1 + 3037000493 * (z + 1)) % 18446744073709551533 = y2 at hy2
          refine ⟨_, rfl, _, rfl, _, _, rfl, rfl, _, _, rfl, rfl, .inl ⟨by omega, by omega⟩, .inl ⟨_, rfl, _, _, rfl, rfl, (by show (0 : Int) < 18446744073709551533; decide), ?_⟩⟩
          generalize (y2 * (y2 + 1181783497)) % 18446744073709551533 = y3
          refine ⟨_, rfl, _, _, rfl, rfl, wide_div (b := 40) (by decide) (by decide) (by decide) (by decide), .inl ⟨_, rfl, _, rfl, _, _, rfl, rfl, (by omega), ?_⟩⟩
          exact kk _ (mod_rng n1).1 (mod_rng n1).2
end
end Rd
end T_W10
section T_W11
set_option Elab.async false
set_option linter.all false
set_option maxRecDepth 100000
set_option maxHeartbeats 4000000
/-! Picks, shuffles. -/
namespace Rd
open PySem PySem.Spec PyProof.Rows L2
def spPick : Sp := fun vs H Q _ => ∃ (p cl : Addr) (x : V) (c : Nat), vs = [.ref p, x] ∧ PenAt H p cl c ∧ c ≤ 1000000 ∧
  ((∃ z : Str, x = .str z ∧ 1 ≤ z.cps.size ∧ z.cps.size ≤ 1000 ∧ ∀ H' y, y ∈ z.cps.toList → Ex p H H' → PenAt H' p cl (c + 1) → Q (.str ⟨#[y]⟩) H') ∨
   (∃ (a : Addr) (xs : List V), x = .ref a ∧ H a = some (.lst xs) ∧ xs ≠ [] ∧ xs.length ≤ 1000 ∧ ∀ H' y, y ∈ xs → Ex p H H' → PenAt H' p cl (c + 1) → Q y H'))
def spShuf : Sp := fun vs H Q _ => ∃ (p cl a : Addr) (xs : List V) (c : Nat), vs = [.ref p, .ref a] ∧ PenAt H p cl c ∧ H a = some (.lst xs) ∧ xs.length ≤ 100 ∧ c + xs.length ≤ 1000000 ∧
  ∀ (H' : Hp) (q : Addr) (ys : List V), Ex p H H' → PenAt H' p cl (c + xs.length) → H q = none → H' q = some (.lst ys) → ys.Perm xs → Q (.ref q) H'
theorem perm_erase : ∀ {xs : List V} {k : Nat} (h : k < xs.length), (xs[k] :: xs.eraseIdx k).Perm xs
  | x :: xs, 0, _ => List.Perm.refl _
  | x :: xs, k + 1, h => by
    have h' : k < xs.length := Nat.lt_of_succ_lt_succ h
    have ih := perm_erase (xs := xs) (k := k) h'
    show (xs[k] :: x :: xs.eraseIdx k).Perm (x :: xs)
    exact (List.Perm.swap _ _ _).trans (ih.cons x)
def lenAt (H : Hp) (l : Addr) : Nat := match H l with
  | some (.lst rest) => rest.length
  | _ => 0
theorem lenAt_of {H : Hp} {l : Addr} {xs : List V} (h : H l = some (.lst xs)) : lenAt H l = xs.length := by
  unfold lenAt
  rw [h]
section
variable {P : Program} {w : World} {K : PySem.W.Frag} {mg : Str → Option Value} {base : Heap} {cO cC cM f : Addr} {fd : FuncData}
abbrev s_law_pick : Stmt := top 52
abbrev Nlaw_pick : List Str := ["_law_pen_here", "_law_some"]
theorem sclaw_pick : FnScope Nlaw_pick ["_law_pen_here", "_law_some"] (defScope s_law_pick) := ⟨rfl, rfl, rfl, by decide +kernel, rfl, by decide +kernel, by decide +kernel⟩
theorem ok_law_pick (F : FD K "_law_pick" s_law_pick f fd) (T : Tx K mg cO cC cM) (c__law_draw : C8.Cal P w K mg base 1 "_law_draw" spDraw []) : FnOk P w K mg base CX0 2 f fd ["_law_pen_here", "_law_some"] spPick := by
  refine ok0 F sclaw_pick (fun vs H Q E h => ?_) (fun cdv A outer s H vs Q E hr h => ?_)
  · obtain ⟨p, cl, x, c, rfl, _⟩ := h
    rfl
  · obtain ⟨p, cl, x, c, rfl, hp, hc, hx⟩ := h
    refine ⟨_, (pss_one (ps_ret (pe_ix ix_seq (pv 1) (C8.pe_c c__law_draw hr (by decide) (by rfl) (pa_cons (pv 0) (pa_cons (pe_callB call_len (by rfl) T.b_len bt_len (pa_cons (pv 1) pa_nil)) pa_nil))) (fun _ _ => rfl)))), ?_⟩
    rcases hx with ⟨z, rfl, h1, h2, k⟩ | ⟨a, xs, rfl, ha, hne, h2, k⟩
    · refine ⟨_, rfl, _, rfl, _, rfl, _, z.length, rfl, ⟨Nat.le_trans (show z.cps.size ≤ 1000 from h2) (by decide), rfl⟩, ?_⟩
      have hz : (z.length : Int) = (z.cps.size : Int) := rfl
      refine ⟨p, cl, _, c, rfl, hp, by rw [hz]; omega, by rw [hz]; omega, hc, fun H' j j0 j1 x1 p1 => ?_⟩
      have hj : j.toNat < z.cps.size := by omega
      refine .inr (.inr ⟨z, _, z.cps.toList[j.toNat]'(by rw [Array.length_toList]; exact hj), rfl, rfl, Nat.le_trans (show z.cps.size ≤ 1000 from h2) (by decide), ?_, k H' _ (List.getElem_mem _) x1 p1⟩)
      have e := atI_nat (xs := z.cps.toList) (j := j.toNat) (List.getElem?_eq_getElem (by rw [Array.length_toList]; exact hj))
      rw [Int.toNat_of_nonneg j0] at e
      exact e
    · have hl : 0 < xs.length := List.length_pos_iff.mpr hne
      refine ⟨_, rfl, _, rfl, _, rfl, _, xs.length, rfl, .inl ⟨xs, SqL.of ha, rfl⟩, ?_⟩
      refine ⟨p, cl, _, c, rfl, hp, by omega, by omega, hc, fun H' j j0 j1 x1 p1 => ?_⟩
      have hj : j.toNat < xs.length := by omega
      have ha2 := x1 _ _ (hp.ne ha (by intro q z; cases z)) ha
      refine .inl ⟨a, xs, _, xs[j.toNat], rfl, rfl, SqL.of ha2, ?_, k H' _ (List.getElem_mem _) x1 p1⟩
      have e := atI_nat (xs := xs) (j := j.toNat) (List.getElem?_eq_getElem hj)
      rw [Int.toNat_of_nonneg j0] at e
      exact e
abbrev s_law_shuffled : Stmt := top 53
abbrev Nlaw_shuffled : List Str := ["_law_pen_here", "_law_some", "_law_left", "_law_found"]
theorem sclaw_shuffled : FnScope Nlaw_shuffled ["_law_pen_here", "_law_some"] (defScope s_law_shuffled) := ⟨rfl, rfl, rfl, by decide +kernel, rfl, by decide +kernel, by decide +kernel⟩
theorem ok_law_shuffled (F : FD K "_law_shuffled" s_law_shuffled f fd) (T : Tx K mg cO cC cM) (c__law_draw : C8.Cal P w K mg base 1 "_law_draw" spDraw []) : FnOk P w K mg base CX0 2 f fd ["_law_pen_here", "_law_some"] spShuf := by
  refine ok0 F sclaw_shuffled (fun vs H Q E h => ?_) (fun cdv A outer s H vs Q E hr h => ?_)
  · obtain ⟨p, cl, a, xs, c, rfl, _⟩ := h
    rfl
  · obtain ⟨p, cl, a, xs, c, rfl, hp, ha, h1, hc, k⟩ := h
    refine ⟨_, (pss_cons (ps_par (i := 2) (j := 3) (by rfl) sclaw_shuffled.nd rfl rfl (by decide) rfl rfl (pa_cons (pe_callTy call_list_of (by rfl) T.b_list bt_list (pa_cons (pv 1) pa_nil)) (pa_cons (pe_lst pa_nil) pa_nil)) (by rfl))
    (pss_cons (ps_while PassesOwn.never (pt_cmpR (op_neE hr.units0) (pv 2) (pe_lst pa_nil) (nomark _)) (pss_one (ps_expr (pe_bm PySem.F.plainAttrs_list PySem.F.slot_list_append PySem.F.type_list_append mt_append (pv 3) (pa_cons (pe_bm PySem.F.plainAttrs_list PySem.F.slot_list_pop PySem.F.type_list_pop mt_popAt (pv 2) (pa_cons (C8.pe_c c__law_draw hr (by decide) (by rfl) (pa_cons (pv 0) (pa_cons (pe_callB call_len_seq (by rfl) T.b_len bt_len (pa_cons (pv 2) pa_nil)) pa_nil))) pa_nil)) pa_nil)))))
    (pss_one (ps_ret (pv 3))))), ?_⟩
    refine ⟨_, rfl, a, _, rfl, .inl (SqL.of ha), fun l hl => ⟨Nat.zero_le _, fun b hb => ⟨_, _, rfl, ?_⟩⟩⟩
    have hlb : l ≠ b := fun z => by rw [← z, upd_same] at hb; cases hb
    have hb0 : H b = none := by rw [upd_ne hlb.symm] at hb; exact hb
    have nlp := hp.nn hl
    have nlc := hp.nc hl
    have nbp := hp.nn hb0
    have nbc := hp.nc hb0
    refine while_by (fun σ H' => σ = [some (.ref p), some (.ref a), some (.ref l), some (.ref b)] ∧ Ex p H H' ∧ ∃ rest done : List V, H' l = some (.lst rest) ∧ H' b = some (.lst done) ∧ (done ++ rest).Perm xs ∧ PenAt H' p cl (c + done.length))
      (fun σ H' => lenAt H' l) ?_ ?_ ?_
    · exact ⟨rfl, ((Ex.refl p H).put (.inr hl)).put (.inr hb0), xs, [], by rw [upd_ne hlb, upd_same], upd_same, List.Perm.refl _, (hp.put nlp nlc).put nbp nbc⟩
    · rintro σ H1 ⟨rfl, x1, rest, done, hl1, hb1, hperm, p1⟩
      refine ⟨_, rfl, Nat.zero_le _, fun t ht => ⟨l, t, rest, rfl, rfl, SqL.of (by rw [upd_ne (ne_of_none hl1 ht)]; exact hl1), upd_same, _, rfl, ?_⟩⟩
      have x2 : Ex p H (upd H1 t (.lst [])) := x1.put (.inr (x1.free p1 ht))
      have p2 : PenAt (upd H1 t (.lst [])) p cl (c + done.length) := p1.new ht
      have k2 : Same H1 (upd H1 t (.lst [])) := same_put (Same.refl _) ht
      generalize upd H1 t (.lst []) = H2 at x2 k2 p2
      have hl2 := k2 _ _ hl1
      have hb2 := k2 _ _ hb1
      have hsum : done.length + rest.length = xs.length := by rw [← List.length_append]; exact hperm.length_eq
      cases hr0 : rest with
      | nil =>
        subst hr0
        have hd : done.length = xs.length := by simpa using hsum
        exact iteF ⟨_, rfl, k _ b done x2 (hd ▸ p2) hb0 hb2 (by rw [List.append_nil] at hperm; exact hperm)⟩
      | cons z0 zs0 =>
        have hpos : 0 < rest.length := by rw [hr0]; exact Nat.succ_pos _
        rw [← hr0]
        have e1 : (!rest.isEmpty) = true := by rw [hr0]; rfl
        rw [e1]
        refine iteT ⟨_, rfl, .inl ⟨rfl, _, SqL.of hb2⟩, _, rfl, .inl ⟨rfl, _, SqL.of hl2⟩, _, rfl, _, rfl, l, _, rfl, .inl (SqL.of hl2), ?_⟩
        refine ⟨p, cl, _, c + done.length, rfl, p2, by omega, by omega, by omega, fun H3 j j0 j1 x3 p3 => ?_⟩
        have hl3 := x3 _ _ nlp hl2
        have hb3 := x3 _ _ nbp hb2
        have hj : j.toNat < rest.length := by omega
        refine ⟨l, rest, j, j.toNat, rest[j.toNat], rfl, rfl, hl3, by omega, by omega, seqIndex_of j0 j1, List.getElem?_eq_getElem hj, ?_⟩
        have hb4 : (upd H3 l (.lst (rest.eraseIdx j.toNat))) b = some (.lst done) := by rw [upd_ne hlb.symm]; exact hb3
        refine ⟨b, done, _, rfl, rfl, hb4, Nat.lt_of_le_of_lt (by omega : done.length ≤ 100) (by decide), ?_⟩
        have hl5 : (upd (upd H3 l (.lst (rest.eraseIdx j.toNat))) b (.lst (done ++ [rest[j.toNat]]))) l = some (.lst (rest.eraseIdx j.toNat)) := by rw [upd_ne hlb, upd_same]
        refine ⟨⟨rfl, ((x2.trans x3).put (.inr hl)).put (.inr hb0), _, _, hl5, upd_same, ?_, ?_⟩, ?_⟩
        · refine List.Perm.trans ?_ hperm
          rw [List.append_assoc]
          refine List.Perm.append_left _ ?_
          exact perm_erase hj
        · rw [List.length_append]
          exact ((p3.put nlp nlc).put nbp nbc)
        · show lenAt _ l < lenAt H1 l
          rw [lenAt_of hl5, lenAt_of hl1]
          rw [List.length_eraseIdx_of_lt hj]
          omega
    · intro σ H1 Q1 Q2 hq h
      obtain ⟨v, h1, h2, h3⟩ := h
      refine ⟨v, h1, h2, fun t ht => ?_⟩
      obtain ⟨a1, b1, xs1, e1, e2, e3, e4, b2, e5, e6⟩ := h3 t ht
      exact ⟨a1, b1, xs1, e1, e2, e3, e4, b2, e5, hq _ _ e6⟩
end
end Rd
end T_W11
section T_W12
set_option Elab.async false
set_option linter.all false
set_option maxRecDepth 100000
set_option maxHeartbeats 4000000
/-! Names. -/
namespace Rd
open PySem PySem.Spec PyProof.Rows L2
theorem abet_at : ∀ j, j < 26 → abet.cps.toList[j]? = some (97 + j) := by decide +kernel
theorem letters_ne {b f : Int} (hb : b ∈ ([1, 3, 5, 7, 9, 11, 15, 17] : List Int)) {i j : Nat} (h : i < j) (hj : j ≤ 12) : (f + b * i) % 26 ≠ (f + b * j) % 26 := by
  simp only [List.mem_cons, List.not_mem_nil, or_false] at hb
  rcases hb with rfl | rfl | rfl | rfl | rfl | rfl | rfl | rfl <;> omega
/-- the code of the i-th name's letter -/
def ltr (f b : Int) (i : Nat) : Nat := 97 + ((f + b * i) % 26).toNat
def spNames : Sp := fun vs H Q _ => ∃ (p cl : Addr) (m c : Nat), vs = [.ref p, .int m] ∧ PenAt H p cl c ∧ m ≤ 12 ∧ c + 100 ≤ 1000000 ∧
  ∀ (H' : Hp) (q : Addr) (xs : List Str), Ex p H H' → PenAt H' p cl (c + 100) → H q = none → H' q = some (.lst (xs.map V.str)) → xs.length = m → xs.Nodup → (∀ x ∈ xs, NameOk x) → Q (.ref q) H'
theorem cps_S (l : List Nat) : (SX.S l).cps.toList = l := by simp [SX.S]
theorem size_S (l : List Nat) : (SX.S l).cps.size = l.length := by simp [SX.S]
theorem joinL_ones : ∀ ys : List Nat, TL.joinL [] (ys.map fun y => [y]) = ys
  | [] => rfl
  | [y] => rfl
  | y :: z :: ys => by
    have ih := joinL_ones (z :: ys)
    show [y] ++ ([] ++ TL.joinL [] ((z :: ys).map fun y => [y])) = _
    rw [ih]
    rfl
theorem ones_sum : ∀ ys : List Nat, ((((ys.map fun y => [y]).map SX.S).map fun x : Str => x.length).sum) = ys.length
  | [] => rfl
  | y :: ys => by
    have ih := ones_sum ys
    rw [List.map_cons, List.map_cons, List.map_cons, List.sum_cons, ih, List.length_cons]
    show 1 + ys.length = _
    omega
theorem name_ok {ys tail : List Nat} {a : Nat} {c : Nat} (h8 : ys.length ≤ 8) (ha : a < ys.length) (hy : ∀ y ∈ ys, y ∈ abet.cps.toList) (hc : c ∈ abet.cps.toList) (ht : tail = [] ∨ tail = ys.drop (a + 1)) :
    NameOk (SX.S (ys.take a ++ [c] ++ tail)) ∧ (SX.S (ys.take a ++ [c] ++ tail)).cps.toList[a]? = some c ∧ (ys.take a ++ [c] ++ tail).length ≤ 8 := by
  have hl : (ys.take a ++ [c] ++ tail).length ≤ 8 := by
    rw [List.length_append, List.length_append, List.length_take, Nat.min_eq_left (Nat.le_of_lt ha)]
    rcases ht with rfl | rfl
    · show a + 1 + 0 ≤ 8
      omega
    · rw [List.length_drop]
      show a + 1 + _ ≤ 8
      omega
  refine ⟨⟨?_, ?_, ?_⟩, ?_, hl⟩
  · rw [size_S, List.length_append, List.length_append]
    show 0 < _ + 1 + _
    omega
  · rw [size_S]; exact hl
  · rw [cps_S]
    intro z hz
    rcases List.mem_append.mp hz with h | h
    · rcases List.mem_append.mp h with h | h
      · exact hy z (List.mem_of_mem_take h)
      · rw [List.mem_singleton.mp h]; exact hc
    · rcases ht with rfl | rfl
      · cases h
      · exact hy z (List.mem_of_mem_drop h)
  · rw [cps_S, List.append_assoc, List.getElem?_append_right (by rw [List.length_take]; omega), List.length_take, Nat.min_eq_left (Nat.le_of_lt ha), Nat.sub_self]
    rfl
theorem ltr_mem (f b : Int) (i : Nat) : ltr f b i ∈ abet.cps.toList := by
  unfold ltr
  have h := mod_rng (a := f + b * i) (n := 26) (by decide)
  exact List.mem_of_getElem? (abet_at _ (by omega))
section
variable {P : Program} {w : World} {K : PySem.W.Frag} {mg : Str → Option Value} {base : Heap} {cO cC cM f : Addr} {fd : FuncData}
abbrev s_law_names : Stmt := top 54
abbrev Nlaw_names : List Str := ["_law_pen_here", "_law_many", "_law_letters", "_law_found", "_law_k", "_law_base", "_law_at_here", "_law_first", "_law_by", "_law_tail"]
theorem sclaw_names : FnScope Nlaw_names ["_law_pen_here", "_law_many"] (defScope s_law_names) := ⟨rfl, rfl, rfl, by decide +kernel, rfl, by decide +kernel, by decide +kernel⟩
theorem ok_law_names (F : FD K "_law_names" s_law_names f fd) (T : Tx K mg cO cC cM) (c__law_draw : C8.Cal P w K mg base 1 "_law_draw" spDraw []) (c__law_pick : C8.Cal P w K mg base 2 "_law_pick" spPick []) : FnOk P w K mg base CX0 3 f fd ["_law_pen_here", "_law_many"] spNames := by
  refine ok0 F sclaw_names (fun vs H Q E h => ?_) (fun cdv A outer s H vs Q E hr h => ?_)
  · obtain ⟨p, cl, m, c, rfl, _⟩ := h
    rfl
  · obtain ⟨p, cl, m, c, rfl, hp, hm, hc, k⟩ := h
    refine ⟨_, (pss_cons (ps_asg (pe_tup (pa_cons pe_str (pa_cons (pe_lst pa_nil) pa_nil))) (pg_tup rfl (pgs_cons (pg_name (i := 2) sclaw_names.nd rfl (Or.inr rfl)) (pgs_cons (pg_name (i := 3) sclaw_names.nd rfl (Or.inl rfl)) pgs_nil))))
    (pss_cons (ps_set (i := 5) sclaw_names.nd rfl (Or.inl rfl) (pe_join pe_str (pe_lc (own := [("_law_k", 4)]) (g := gName 4) (tt := tYes) rfl sclaw_names.nd (pi_range1 (by rfl) T.b_range (pa_cons (pe_op op_add pe_int (C8.pe_c c__law_draw hr (by decide) (by rfl) (pa_cons (pv 0) (pa_cons pe_int pa_nil)))) pa_nil)) (blkOk_by (own := [("_law_k", 4)]) (N := Nlaw_names) (sc := defScope s_law_names) (by decide +kernel)) (fun _ _ _ _ _ => (pg_name (i := 4) sclaw_names.nd rfl (Or.inl rfl))) (fun _ _ _ _ _ => pts_nil) (fun _ _ _ _ _ => (C8.pe_c c__law_pick hr (by decide) (by rfl) (pa_cons (pv 0) (pa_cons (pv 2) pa_nil)))))))
    (pss_cons (ps_par3 (i := 6) (j := 7) (l := 8) (by rfl) sclaw_names.nd rfl rfl rfl (by decide) (by decide) (by decide) rfl rfl rfl (pa_cons (C8.pe_c c__law_draw hr (by decide) (by rfl) (pa_cons (pv 0) (pa_cons (pe_callB call_len_str (by rfl) T.b_len bt_len (pa_cons (pv 5) pa_nil)) pa_nil))) (pa_cons (C8.pe_c c__law_draw hr (by decide) (by rfl) (pa_cons (pv 0) (pa_cons pe_int pa_nil))) (pa_cons (C8.pe_c c__law_pick hr (by decide) (by rfl) (pa_cons (pv 0) (pa_cons (pe_lst (pa_cons pe_int (pa_cons pe_int (pa_cons pe_int (pa_cons pe_int (pa_cons pe_int (pa_cons pe_int (pa_cons pe_int (pa_cons pe_int pa_nil))))))))) pa_nil))) pa_nil))) (by rfl))
    (pss_cons (ps_for PassesOwn.never rfl (pi_range1 (by rfl) T.b_range (pa_cons (pv 1) pa_nil)) (pg_name (i := 4) sclaw_names.nd rfl (Or.inl rfl)) (C8.pss_cut (ps_set (i := 9) sclaw_names.nd rfl (Or.inl rfl) (pe_ifExp (pt_cmpR op_gt (C8.pe_c c__law_draw hr (by decide) (by rfl) (pa_cons (pv 0) (pa_cons pe_int pa_nil))) pe_int (nomark _)) (pe_slice C8.sl_txt (pv 5) (po_some (pe_op op_add (pv 6) pe_int)) po_none) pe_str))
      (pss_one (ps_expr (pe_bm PySem.F.plainAttrs_list PySem.F.slot_list_append PySem.F.type_list_append mt_append (pv 3) (pa_cons (pe_op op_add_str (pe_op op_add_str (pe_slice C8.sl_txt (pv 5) po_none (po_some (pv 6))) (pe_ix ix_str (pv 2) (pe_op op_mod (pe_callTy call_int1 (by rfl) T.b_int bt_int (pa_cons (pe_op op_add (pv 7) (pe_op op_mul (pv 8) (pv 4))) pa_nil)) pe_int) (fun _ _ => rfl))) (pv 9)) pa_nil))))))
    (pss_one (ps_ret (pv 3))))))), ?_⟩
    refine ⟨Nat.zero_le _, fun q hq => ⟨(by show 2 ≤ sizeLine; decide), fun t ht => ⟨t, _, rfl, SqT.of upd_same, rfl, _, _, rfl, _, _, rfl, rfl, ?_⟩⟩⟩
    have nqp := hp.nn hq
    have nqc := hp.nc hq
    have x1 : Ex p H (upd (upd H q (.lst [])) t (.tup [.str abet, .ref q])) := ((Ex.refl p H).put (.inr hq)).put (.inr (by
      rw [upd_ne (fun z => by rw [z, upd_same] at ht; cases ht)] at ht; exact ht))
    have p1 : PenAt (upd (upd H q (.lst [])) t (.tup [.str abet, .ref q])) p cl c := (hp.new hq).new ht
    have q1 : (upd (upd H q (.lst [])) t (.tup [.str abet, .ref q])) q = some (.lst []) := by
      rw [upd_ne (fun z => by rw [← z, upd_same] at ht; cases ht), upd_same]
    generalize upd (upd H q (.lst [])) t (.tup [.str abet, .ref q]) = H1 at x1 p1 q1
    refine ⟨⟨_, rfl⟩, _, rfl, p, cl, 8, c, rfl, p1, by omega, by omega, by omega, fun H2 j j0 j1 x2 p2 => ⟨_, _, rfl, rfl, (1 + j), rfl, by omega, by omega, fun D hD => ?_⟩⟩
    have x12 := x1.trans x2
    have q2 := x2 _ _ nqp q1
    have hDp := p2.nn hD
    have hDc := p2.nc hD
    have hD0 : H D = none := x12.free p2 hD
    have hDq : q ≠ D := ne_of_none q2 hD
    refine lc_it (walk_range (lo := 0) (n := (1 + j).toNat)) (fun i H' => Ex p H H' ∧ PenAt H' p cl (c + 1 + i) ∧ H' q = some (.lst []) ∧ ∃ ys : List Nat, ys.length = i ∧ (∀ y ∈ ys, y ∈ abet.cps.toList) ∧ H' D = some (.lst (ys.map fun y => V.str (SX.S [y]))))
      ⟨x12.put (.inr hD0), p2.new hD, by rw [upd_ne hDq]; exact q2, [], rfl, fun y hy => absurd hy List.not_mem_nil, upd_same⟩ (fun _ _ _ _ => trivial) ?_ ?_
    · rintro i y H3 H4 hi ⟨x3, p3, q3, ys, hl, hy, hD3⟩ ⟨e4, rfl⟩
      subst e4
      refine ⟨rfl, yes_if ⟨_, rfl, _, rfl, p, cl, _, c + 1 + i, rfl, p3, by omega, .inl ⟨abet, rfl, by decide +kernel, by decide +kernel, fun H5 z hz x5 p5 => ?_⟩⟩⟩
      have hD5 := x5 _ _ hDp hD3
      refine ⟨_, hD5, ?_, (x3.trans x5).put (.inr hD0), p5.put hDp hDc, by rw [upd_ne hDq]; exact x5 _ _ nqp q3, ys ++ [z], by rw [List.length_append, hl]; rfl, fun y2 hy2 => ?_, ?_⟩
      · rw [List.length_map, hl]
        exact Nat.lt_of_lt_of_le hi (Nat.le_trans (by omega : (1 + j).toNat ≤ 8) (by decide))
      · rcases List.mem_append.mp hy2 with h | h
        · exact hy y2 h
        · rw [List.mem_singleton.mp h]; exact hz
      · rw [upd_same, List.map_append]
        rfl
    · rintro H3 ⟨x3, p3, q3, ys, hl, hy, hD3⟩
      have hl8 : ys.length ≤ 8 := by omega
      have hl1 : 1 ≤ ys.length := by omega
      refine ⟨SX.S [], D, (ys.map fun y => [y]).map SX.S, rfl, rfl, .inl (SqL.of (by rw [hD3, List.map_map, List.map_map]; rfl)), ?_, ?_⟩
      · have e := ones_sum ys
        show ((((ys.map fun y => [y]).map SX.S).map fun x : Str => x.length).sum) + _ * 0 ≤ 16777216
        rw [e]
        omega
      rw [SX.join_S, joinL_ones]
      have p3' : PenAt H3 p cl (c + 10) := p3.mono (by omega)
      clear p3
      have hsz : (SX.S ys).length = ys.length := size_S ys
      refine ⟨_, rfl, _, rfl, _, rfl, Nat.le_trans (by rw [hsz]; exact hl8 : (SX.S ys).length ≤ 8) (by decide), p, cl, _, c + 10, rfl, p3', by rw [hsz]; omega, by rw [hsz]; omega, by omega, fun H4 at0 a0 a1 x4 p4 => ?_⟩
      rw [hsz] at a1
      refine ⟨_, rfl, p, cl, 26, c + 10 + 1, rfl, p4, by omega, by omega, by omega, fun H5 fi f0 f1 x5 p5 => ?_⟩
      refine ⟨_, rfl, (by show 8 ≤ sizeLine; decide), fun l hl => ?_⟩
      have x14 := (x3.trans x4).trans x5
      have q5 := x5 _ _ nqp (x4 _ _ nqp q3)
      refine ⟨p, cl, _, c + 10 + 1 + 1, rfl, p5.new hl, by omega, .inr ⟨l, _, rfl, upd_same, by simp, by show 8 ≤ 1000; decide, fun H6 y hy2 x6 p6 => ⟨_, _, _, rfl, ?_⟩⟩⟩
      obtain ⟨b, rfl, hb⟩ : ∃ b : Int, y = .int b ∧ b ∈ ([1, 3, 5, 7, 9, 11, 15, 17] : List Int) := by
        simp only [List.mem_cons, List.not_mem_nil, or_false] at hy2
        rcases hy2 with h | h | h | h | h | h | h | h <;> exact ⟨_, h, by simp⟩
      have b17 : 1 ≤ b ∧ b ≤ 17 := by
        simp only [List.mem_cons, List.not_mem_nil, or_false] at hb
        omega
      have hlq : q ≠ l := ne_of_none q5 hl
      have x16 : Ex p H H6 := (x14.put (.inr (x14.free p5 hl))).trans x6
      have q6 := x6 _ _ nqp (by rw [upd_ne hlq]; exact q5 : (upd H5 l _) q = some (.lst []))
      have p6' : PenAt H6 p cl (c + 20) := p6.mono (by omega)
      have ha : at0.toNat < ys.length := by omega
      refine ⟨_, rfl, m, rfl, by omega, by omega, for_it (walk_range (lo := 0) (n := (m : Int).toNat)) (fun i σ H' => Ex p H H' ∧ PenAt H' p cl (c + 20 + i) ∧ ∃ (xs : List Str) (v v' : Option V), σ = [some (.ref p), some (.int m), some (.str abet), some (.ref q), v, some (.str (SX.S ys)), some (.int at0), some (.int fi), some (.int b), v'] ∧ H' q = some (.lst (xs.map V.str)) ∧ xs.length = i ∧
        ∀ j x, xs[j]? = some x → NameOk x ∧ x.cps.toList[at0.toNat]? = some (ltr fi b j)) ⟨x16, p6', [], _, _, rfl, q6, rfl, fun j x hx => by simp at hx⟩ (fun _ _ _ _ _ => trivial) ?_ ?_⟩
      · rintro i y σ H7 H8 hi ⟨x7, p7, xs, v, v', rfl, q7, hxl, hxs⟩ ⟨e8, rfl⟩
        subst e8
        have hi12 : i < 12 := by omega
        refine ⟨fun σ' H' => ∃ tail : List Nat, (tail = [] ∨ tail = ys.drop (at0.toNat + 1)) ∧ σ' = [some (.ref p), some (.int m), some (.str abet), some (.ref q), some (.int (0 + (i : Nat))), some (.str (SX.S ys)), some (.int at0), some (.int fi), some (.int b), some (.str (SX.S tail))] ∧ Ex p H H' ∧ PenAt H' p cl (c + 20 + (i + 1)) ∧ H' q = some (.lst (xs.map V.str)), ?_, ?_⟩
        · refine ⟨_, rfl, p, cl, 3, c + 20 + i, rfl, p7, by omega, by omega, by omega, fun H9 d d0 d1 x9 p9 => ⟨_, _, rfl, rfl, _, rfl, ?_⟩⟩
          have q9 := x9 _ _ nqp q7
          by_cases hd : d > 0
          · rw [decide_eq_true hd]
            refine iteT ⟨_, rfl, _, rfl, _, _, rfl, rfl, _, rfl, SX.S ys, rfl, Nat.le_trans (by rw [hsz]; exact hl8 : (SX.S ys).length ≤ 8) (by decide), ?_⟩
            refine ⟨ys.drop (at0.toNat + 1), .inr rfl, ?_, x7.trans x9, p9, q9⟩
            rw [SX.slice_from (by omega), show (at0 + 1).toNat = at0.toNat + 1 by omega]
            rfl
          · rw [decide_eq_false hd]
            exact iteF ⟨[], .inl rfl, rfl, x7.trans x9, p9, q9⟩
        · rintro σ' H9 ⟨tail, ht, rfl, x9, p9, q9⟩
          obtain ⟨nk, nat, nl8⟩ := name_ok (c := ltr fi b i) hl8 ha hy (ltr_mem fi b i) ht
          have hm26 := mod_rng (a := fi + b * (0 + (i : Nat))) (n := 26) (by decide)
          have e26 : (fi + b * (0 + (i : Nat))) = fi + b * i := by rw [Int.zero_add]
          have eat := atI_nat (abet_at ((fi + b * (0 + (i : Nat))) % 26).toNat (by omega))
          rw [Int.toNat_of_nonneg hm26.1] at eat
          have lk : (ys.take at0.toNat).length ≤ 8 := by rw [List.length_take]; omega
          refine ⟨_, rfl, .inl ⟨rfl, _, SqL.of q9⟩, _, rfl, _, rfl, _, rfl, SX.S ys, rfl, Nat.le_trans (by rw [hsz]; exact hl8 : (SX.S ys).length ≤ 8) (by decide), ?_⟩
          rw [SX.slice_to a0]
          refine ⟨_, rfl, _, rfl, _, rfl, _, rfl, _, _, rfl, rfl, .inl ⟨by omega, by omega⟩, _, _, rfl, rfl, .inl ⟨_, rfl, _, _, rfl, rfl, (by show (0 : Int) < 26; decide), abet, _, _, rfl, rfl, (by decide +kernel), eat, ?_⟩⟩
          refine ⟨_, _, rfl, rfl, Nat.le_trans (by rw [show (SX.S (ys.take at0.toNat)).length = _ from size_S _]; show _ + 1 ≤ 9; omega) (by decide : 9 ≤ sizeLine), _, rfl, _, _, rfl, rfl, ?_, q, _, _, rfl, rfl, q9, ?_, ?_⟩
          · have e1 : (SX.S (ys.take at0.toNat) ++ SX.S [97 + ((fi + b * (0 + (i : Nat))) % 26).toNat] : Str) = SX.S (ys.take at0.toNat ++ [97 + ((fi + b * (0 + (i : Nat))) % 26).toNat]) := SX.S_cat _ _
            show (SX.S (ys.take at0.toNat) ++ SX.S [97 + ((fi + b * (0 + (i : Nat))) % 26).toNat] : Str).length + (SX.S tail).length ≤ sizeLine
            rw [e1, show (SX.S (ys.take at0.toNat ++ [97 + ((fi + b * (0 + (i : Nat))) % 26).toNat])).length = _ from size_S _, show (SX.S tail).length = _ from size_S _, List.length_append]
            have lt : tail.length ≤ 8 := by
              rcases ht with rfl | rfl
              · exact Nat.zero_le _
              · rw [List.length_drop]; omega
            exact Nat.le_trans (by show _ + 1 + _ ≤ 20; omega) (by decide : 20 ≤ sizeLine)
          · rw [List.length_map, hxl]
            exact Nat.lt_of_lt_of_le hi12 (by decide)
          · have e1 : (SX.S (ys.take at0.toNat) ++ SX.S [97 + ((fi + b * (0 + (i : Nat))) % 26).toNat] : Str) = SX.S (ys.take at0.toNat ++ [97 + ((fi + b * (0 + (i : Nat))) % 26).toNat]) := SX.S_cat _ _
            have e2 : (SX.S (ys.take at0.toNat) ++ SX.S [97 + ((fi + b * (0 + (i : Nat))) % 26).toNat] ++ SX.S tail : Str) = SX.S (ys.take at0.toNat ++ [ltr fi b i] ++ tail) := by
              rw [e1, SX.S_cat, e26]
              rfl
            have q10 : (upd H9 q (.lst (xs.map V.str ++ [V.str (SX.S (ys.take at0.toNat) ++ SX.S [97 + ((fi + b * (0 + (i : Nat))) % 26).toNat] ++ SX.S tail)]))) q = some (.lst ((xs ++ [SX.S (ys.take at0.toNat ++ [ltr fi b i] ++ tail)]).map V.str)) := by
              rw [upd_same, e2, List.map_append]
              rfl
            refine ⟨x9.put (.inr hq), p9.put nqp nqc, xs ++ [SX.S (ys.take at0.toNat ++ [ltr fi b i] ++ tail)], _, _, rfl, q10, by rw [List.length_append, hxl]; rfl, fun j x hx => ?_⟩
            rw [List.getElem?_append] at hx
            split at hx
            · exact hxs j x hx
            · rename_i hlt
              have hj : j - xs.length = 0 := by
                cases hq2 : j - xs.length with
                | zero => rfl
                | succ k2 => rw [hq2] at hx; simp at hx
              rw [hj] at hx
              obtain rfl : SX.S (ys.take at0.toNat ++ [ltr fi b i] ++ tail) = x := by simpa using hx
              have : j = i := by omega
              rw [this]
              exact ⟨nk, nat⟩
      · rintro σ H7 ⟨x7, p7, xs, v, v', rfl, q7, hxl, hxs⟩
        have hxm : xs.length = m := by rw [hxl]; omega
        refine ⟨_, rfl, k H7 q xs x7 (p7.mono (by omega)) hq q7 hxm ?_ fun x hx => ?_⟩
        · refine List.pairwise_iff_getElem.mpr fun i j hi hj hij e => ?_
          have h1 := (hxs i _ (List.getElem?_eq_getElem hi)).2
          have h2 := (hxs j _ (List.getElem?_eq_getElem hj)).2
          rw [e, h2] at h1
          have h3 := Option.some.inj h1
          unfold ltr at h3
          have h4 := mod_rng (a := fi + b * i) (n := 26) (by decide)
          have h5 := mod_rng (a := fi + b * j) (n := 26) (by decide)
          exact letters_ne (f := fi) hb hij (by omega) (by omega)
        · obtain ⟨j, hj⟩ := List.getElem?_of_mem hx
          exact (hxs j x hj).1
end
end Rd
end T_W12
section T_W13
set_option Elab.async false
set_option linter.all false
set_option maxRecDepth 100000
set_option maxHeartbeats 4000000
/-! An office's raw data. -/
namespace Rd
open PySem PySem.Spec PyProof.Rows L2
def capV : Option Int → V
  | none => .non
  | some m => .int m
def rawOf (o : Off) : List V := [.str o.name, .str o.src, .str o.goal, .int o.p, .int o.q, .int o.fee, .int o.least, capV o.cap]
structure RawOk (es : List Str) (o : Off) : Prop where
  s : o.src ∈ es
  g : o.goal ∈ es
  p1 : 1 ≤ o.p
  p9 : o.p ≤ 9
  q1 : 1 ≤ o.q
  q9 : o.q ≤ 9
  f0 : 0 ≤ o.fee
  f20 : o.fee ≤ 20
  l0 : 0 ≤ o.least
  l1 : o.least ≤ 1000
  c : ∀ m, o.cap = some m → o.least ≤ m ∧ m ≤ 1000000
def spRawOff : Sp := fun vs H Q _ => ∃ (p cl e : Addr) (lab : Str) (es : List Str) (c : Nat), vs = [.ref p, .str lab, .ref e, .int 9] ∧ PenAt H p cl c ∧ H e = some (.lst (es.map V.str)) ∧ es ≠ [] ∧ es.length ≤ 4 ∧ c + 20 ≤ 1000000 ∧
  ∀ (H' : Hp) (t : Addr) (o : Off), Ex p H H' → PenAt H' p cl (c + 20) → H' t = some (.tup (rawOf o)) → o.name = lab → RawOk es o → Q (.ref t) H'
section
variable {P : Program} {w : World} {K : PySem.W.Frag} {mg : Str → Option Value} {base : Heap} {cO cC cM f : Addr} {fd : FuncData}
abbrev s_law_office : Stmt := top 55
abbrev Nlaw_office : List Str := ["_law_pen_here", "_law_label", "_law_ends", "_law_top", "_law_source", "_law_goal", "_law_p", "_law_q", "_law_cost", "_law_floor", "_law_cap"]
theorem sclaw_office : FnScope Nlaw_office ["_law_pen_here", "_law_label", "_law_ends", "_law_top"] (defScope s_law_office) := ⟨rfl, rfl, rfl, by decide +kernel, rfl, by decide +kernel, by decide +kernel⟩
theorem ok_law_office (F : FD K "_law_office" s_law_office f fd) (T : Tx K mg cO cC cM) (c__law_draw : C8.Cal P w K mg base 1 "_law_draw" spDraw []) (c__law_pick : C8.Cal P w K mg base 2 "_law_pick" spPick []) : FnOk P w K mg base CX0 3 f fd ["_law_pen_here", "_law_label", "_law_ends", "_law_top"] spRawOff := by
  refine ok0 F sclaw_office (fun vs H Q E h => ?_) (fun cdv A outer s H vs Q E hr h => ?_)
  · obtain ⟨p, cl, e, lab, es, c, rfl, _⟩ := h
    rfl
  · obtain ⟨p, cl, e, lab, es, c, rfl, hp, he, hne, h4, hc, k⟩ := h
    have hep := hp.ne he (by intro q z; cases z)
    have hne' : es.map V.str ≠ [] := by intro z; exact hne (List.map_eq_nil_iff.mp z)
    have hl4 : (es.map V.str).length ≤ 1000 := by rw [List.length_map]; omega
    refine ⟨_, (pss_cons (ps_asg (pe_tup (pa_cons (C8.pe_c c__law_pick hr (by decide) (by rfl) (pa_cons (pv 0) (pa_cons (pv 2) pa_nil))) (pa_cons (C8.pe_c c__law_pick hr (by decide) (by rfl) (pa_cons (pv 0) (pa_cons (pv 2) pa_nil))) (pa_cons (pe_op op_add pe_int (C8.pe_c c__law_draw hr (by decide) (by rfl) (pa_cons (pv 0) (pa_cons (pv 3) pa_nil)))) (pa_cons (pe_op op_add pe_int (C8.pe_c c__law_draw hr (by decide) (by rfl) (pa_cons (pv 0) (pa_cons (pv 3) pa_nil)))) pa_nil))))) (pg_tup rfl (pgs_cons (pg_name (i := 4) sclaw_office.nd rfl (Or.inl rfl)) (pgs_cons (pg_name (i := 5) sclaw_office.nd rfl (Or.inl rfl)) (pgs_cons (pg_name (i := 6) sclaw_office.nd rfl (Or.inl rfl)) (pgs_cons (pg_name (i := 7) sclaw_office.nd rfl (Or.inl rfl)) pgs_nil))))))
    (pss_cons (ps_par (i := 8) (j := 9) (by rfl) sclaw_office.nd rfl rfl (by decide) rfl rfl (pa_cons (C8.pe_c c__law_pick hr (by decide) (by rfl) (pa_cons (pv 0) (pa_cons (pe_lst (pa_cons pe_int (pa_cons pe_int (pa_cons pe_int (pa_cons pe_int (pa_cons (C8.pe_c c__law_draw hr (by decide) (by rfl) (pa_cons (pv 0) (pa_cons pe_int pa_nil))) pa_nil)))))) pa_nil))) (pa_cons (C8.pe_c c__law_pick hr (by decide) (by rfl) (pa_cons (pv 0) (pa_cons (pe_lst (pa_cons pe_int (pa_cons pe_int (pa_cons pe_int (pa_cons pe_int (pa_cons (C8.pe_c c__law_draw hr (by decide) (by rfl) (pa_cons (pv 0) (pa_cons pe_int pa_nil))) pa_nil)))))) pa_nil))) pa_nil)) (by rfl))
    (pss_cons (ps_set (i := 10) sclaw_office.nd rfl (Or.inl rfl) (C8.pe_c c__law_pick hr (by decide) (by rfl) (pa_cons (pv 0) (pa_cons (pe_lst (pa_cons pe_non (pa_cons pe_non (pa_cons pe_non (pa_cons (pe_op op_add (pv 9) (C8.pe_c c__law_draw hr (by decide) (by rfl) (pa_cons (pv 0) (pa_cons pe_int pa_nil)))) (pa_cons (pe_op op_add (pv 9) (C8.pe_c c__law_draw hr (by decide) (by rfl) (pa_cons (pv 0) (pa_cons (pe_op op_sub pe_int (pv 9)) pa_nil)))) pa_nil)))))) pa_nil))))
    (pss_one (ps_ret (pe_tup (pa_cons (pv 1) (pa_cons (pv 4) (pa_cons (pv 5) (pa_cons (pv 6) (pa_cons (pv 7) (pa_cons (pv 8) (pa_cons (pv 9) (pa_cons (pv 10) pa_nil)))))))))))))), ?_⟩
    refine ⟨_, rfl, _, rfl, p, cl, _, c, rfl, hp, by omega, .inr ⟨e, _, rfl, he, hne', hl4, fun H1 y1 hy1 x1 p1 => ?_⟩⟩
    have he1 := x1 _ _ hep he
    refine ⟨_, rfl, _, rfl, p, cl, _, c + 1, rfl, p1, by omega, .inr ⟨e, _, rfl, he1, hne', hl4, fun H2 y2 hy2 x2 p2 => ?_⟩⟩
    have x12 := x1.trans x2
    refine ⟨_, rfl, _, rfl, p, cl, 9, c + 2, rfl, p2, by omega, by omega, by omega, fun H3 j3 a3 b3 x3 p3 => ⟨_, _, rfl, rfl, ?_⟩⟩
    refine ⟨_, rfl, _, rfl, p, cl, 9, c + 3, rfl, p3, by omega, by omega, by omega, fun H4 j4 a4 b4 x4 p4 => ⟨_, _, rfl, rfl, (by show 4 ≤ sizeLine; decide), fun t ht => ?_⟩⟩
    have x14 := (x12.trans x3).trans x4
    refine ⟨t, _, rfl, SqT.of upd_same, rfl, _, _, rfl, _, _, rfl, _, _, rfl, _, _, rfl, rfl, ?_⟩
    obtain ⟨s1, hs1, rfl⟩ := List.mem_map.mp hy1
    obtain ⟨s2, hs2, rfl⟩ := List.mem_map.mp hy2
    have x15 := x14.put (D := t) (.inr (x14.free p4 ht)) (o := .tup [.str s1, .str s2, .int (1 + j3), .int (1 + j4)])
    have p5 := p4.new ht (o := .tup [.str s1, .str s2, .int (1 + j3), .int (1 + j4)])
    generalize upd H4 t (.tup [.str s1, .str s2, .int (1 + j3), .int (1 + j4)]) = H5 at x15 p5
    refine ⟨_, rfl, _, rfl, p, cl, 21, c + 4, rfl, p5, by omega, by omega, by omega, fun H6 j6 a6 b6 x6 p6 => ⟨(by show 5 ≤ sizeLine; decide), fun l hl => ?_⟩⟩
    have x16 := x15.trans x6
    refine ⟨p, cl, _, c + 5, rfl, p6.new hl, by omega, .inr ⟨l, _, rfl, upd_same, by simp, by show 5 ≤ 1000; decide, fun H7 y7 hy7 x7 p7 => ?_⟩⟩
    have x17 := (x16.put (.inr (x16.free p6 hl))).trans x7
    obtain ⟨fee, rfl, ff0, ff20⟩ : ∃ z : Int, y7 = .int z ∧ 0 ≤ z ∧ z ≤ 20 := by
      simp only [List.mem_cons, List.not_mem_nil, or_false] at hy7
      rcases hy7 with h | h | h | h | h
      · exact ⟨_, h, by decide, by decide⟩
      · exact ⟨_, h, by decide, by decide⟩
      · exact ⟨_, h, by decide, by decide⟩
      · exact ⟨_, h, by decide, by decide⟩
      · exact ⟨_, h, by omega, by omega⟩
    refine ⟨_, rfl, _, rfl, p, cl, 1001, c + 5 + 1, rfl, p7, by omega, by omega, by omega, fun H8 j8 a8 b8 x8 p8 => ⟨(by show 5 ≤ sizeLine; decide), fun l2 hl2 => ?_⟩⟩
    have x18 := x17.trans x8
    refine ⟨p, cl, _, c + 7, rfl, p8.new hl2, by omega, .inr ⟨l2, _, rfl, upd_same, by simp, by show 5 ≤ 1000; decide, fun H9 y9 hy9 x9 p9 => ?_⟩⟩
    have x19 := (x18.put (.inr (x18.free p8 hl2))).trans x9
    obtain ⟨flo, rfl, fl0, fl1⟩ : ∃ z : Int, y9 = .int z ∧ 0 ≤ z ∧ z ≤ 1000 := by
      simp only [List.mem_cons, List.not_mem_nil, or_false] at hy9
      rcases hy9 with h | h | h | h | h
      · exact ⟨_, h, by decide, by decide⟩
      · exact ⟨_, h, by decide, by decide⟩
      · exact ⟨_, h, by decide, by decide⟩
      · exact ⟨_, h, by decide, by decide⟩
      · exact ⟨_, h, by omega, by omega⟩
    refine ⟨_, _, rfl, ?_⟩
    refine ⟨_, rfl, _, rfl, _, rfl, p, cl, 60, c + 8, rfl, p9, by omega, by omega, by omega, fun HA jA aA bA xA pA => ⟨_, _, rfl, rfl, ?_⟩⟩
    refine ⟨_, rfl, _, rfl, _, rfl, _, _, rfl, rfl, p, cl, _, c + 9, rfl, pA, by omega, by omega, by omega, fun HB jB aB bB xB pB => ⟨_, _, rfl, rfl, (by show 5 ≤ sizeLine; decide), fun l3 hl3 => ?_⟩⟩
    have x1B := (x19.trans xA).trans xB
    refine ⟨p, cl, _, c + 10, rfl, pB.new hl3, by omega, .inr ⟨l3, _, rfl, upd_same, by simp, by show 5 ≤ 1000; decide, fun HC yC hyC xC pC => ?_⟩⟩
    have x1C := (x1B.put (.inr (x1B.free pB hl3))).trans xC
    obtain ⟨cap, rfl, hcap⟩ : ∃ z : Option Int, yC = capV z ∧ ∀ m, z = some m → flo ≤ m ∧ m ≤ 1000000 := by
      simp only [List.mem_cons, List.not_mem_nil, or_false] at hyC
      rcases hyC with h | h | h | h | h
      · exact ⟨none, h, fun m hm => nomatch hm⟩
      · exact ⟨none, h, fun m hm => nomatch hm⟩
      · exact ⟨none, h, fun m hm => nomatch hm⟩
      · exact ⟨some _, h, fun m hm => by cases hm; omega⟩
      · exact ⟨some _, h, fun m hm => by cases hm; omega⟩
    refine ⟨_, rfl, _, rfl, _, rfl, _, rfl, _, rfl, _, rfl, _, rfl, _, rfl, (by show 8 ≤ sizeLine; decide), fun tt htt => ?_⟩
    exact k _ tt ⟨lab, s1, s2, 1 + j3, 1 + j4, fee, flo, cap⟩ (x1C.put (.inr (x1C.free pC htt))) ((pC.mono (by omega)).new htt) upd_same rfl ⟨hs1, hs2, by show 1 ≤ 1 + j3; omega, by show 1 + j3 ≤ 9; omega, by show 1 ≤ 1 + j4; omega, by show 1 + j4 ≤ 9; omega, ff0, ff20, fl0, fl1, hcap⟩
end
end Rd
end T_W13
section T_W14
set_option Elab.async false
set_option linter.all false
set_option maxRecDepth 100000
set_option maxHeartbeats 4000000
/-! The ring. -/
namespace Rd
open PySem PySem.Spec PyProof.Rows L2
def RatesAt (H : Hp) (l : Addr) : Prop := ∃ ts : List Addr, H l = some (.lst (ts.map V.ref)) ∧ ts.length ≤ 4 ∧ ∀ t ∈ ts, ∃ a b : Int, H t = some (.tup [.int a, .int b]) ∧ 1 ≤ a ∧ a ≤ 9 ∧ 1 ≤ b ∧ b ≤ 9
theorem RatesAt.same {H H' : Hp} {l : Addr} (r : RatesAt H l) (s : Same H H') : RatesAt H' l :=
  let ⟨ts, h1, h2, h3⟩ := r
  ⟨ts, s _ _ h1, h2, fun t ht => let ⟨a, b, e, h⟩ := h3 t ht; ⟨a, b, s _ _ e, h⟩⟩
theorem RatesAt.ex {H H' : Hp} {p cl l : Addr} {n : Nat} (r : RatesAt H l) (x : Ex p H H') (pn : PenAt H p cl n) : RatesAt H' l :=
  let ⟨ts, h1, h2, h3⟩ := r
  ⟨ts, x _ _ (pn.ne h1 (by intro q z; cases z)) h1, h2, fun t ht => let ⟨a, b, e, h⟩ := h3 t ht; ⟨a, b, x _ _ (pn.ne e (by intro q z; cases z)) e, h⟩⟩
def okR (a b : Int) : Bool := decide (1 ≤ a) && decide (a ≤ 9) && decide (1 ≤ b) && decide (b ≤ 9)
theorem okR_of {a b : Int} (h : okR a b = true) : 1 ≤ a ∧ a ≤ 9 ∧ 1 ≤ b ∧ b ≤ 9 := by
  unfold okR at h
  simp only [Bool.and_eq_true, decide_eq_true_eq] at h
  exact ⟨h.1.1.1, h.1.1.2, h.1.2, h.2⟩
theorem rates2 {H0 : Hp} {t1 t2 l : Addr} {a1 b1 a2 b2 : Int} (o1 : okR a1 b1 = true) (o2 : okR a2 b2 = true) (ht1 : H0 t1 = none) (ht2 : (upd H0 t1 (.tup [.int a1, .int b1])) t2 = none) (hl : (upd (upd H0 t1 (.tup [.int a1, .int b1])) t2 (.tup [.int a2, .int b2])) l = none) :
    Same H0 (upd (upd (upd H0 t1 (.tup [.int a1, .int b1])) t2 (.tup [.int a2, .int b2])) l (.lst [.ref t1, .ref t2])) ∧ RatesAt (upd (upd (upd H0 t1 (.tup [.int a1, .int b1])) t2 (.tup [.int a2, .int b2])) l (.lst [.ref t1, .ref t2])) l := by
  have s1 := same_put (Same.refl H0) ht1 (o := .tup [.int a1, .int b1])
  have s2 := same_put (Same.refl _) ht2 (o := .tup [.int a2, .int b2])
  have s3 := same_put (Same.refl _) hl (o := .lst [.ref t1, .ref t2])
  refine ⟨(s1.trans s2).trans s3, [t1, t2], upd_same, by show 2 ≤ 4; decide, fun t ht => ?_⟩
  rcases List.mem_cons.mp ht with rfl | ht
  · exact ⟨a1, b1, s3 _ _ (s2 _ _ upd_same), okR_of o1⟩
  · rw [List.mem_singleton.mp ht]
    exact ⟨a2, b2, s3 _ _ upd_same, okR_of o2⟩
theorem rates1 {H0 : Hp} {t1 l : Addr} {a1 b1 : Int} (o1 : okR a1 b1 = true) (ht1 : H0 t1 = none) (hl : (upd H0 t1 (.tup [.int a1, .int b1])) l = none) :
    Same H0 (upd (upd H0 t1 (.tup [.int a1, .int b1])) l (.lst [.ref t1])) ∧ RatesAt (upd (upd H0 t1 (.tup [.int a1, .int b1])) l (.lst [.ref t1])) l := by
  have s1 := same_put (Same.refl H0) ht1 (o := .tup [.int a1, .int b1])
  have s3 := same_put (Same.refl _) hl (o := .lst [.ref t1])
  refine ⟨s1.trans s3, [t1], upd_same, by show 1 ≤ 4; decide, fun t ht => ?_⟩
  rw [List.mem_singleton.mp ht]
  exact ⟨a1, b1, s3 _ _ upd_same, okR_of o1⟩
/-- raw offices at their tuples -/
def RawsAt (H : Hp) (rs : List Po) : Prop := ∀ r ∈ rs, H r.1 = some (.tup (rawOf r.2))
theorem RawsAt.ex {H H' : Hp} {p cl : Addr} {n : Nat} {rs : List Po} (r : RawsAt H rs) (x : Ex p H H') (pn : PenAt H p cl n) : RawsAt H' rs := fun q hq => x _ _ (pn.ne (r q hq) (by intro q z; cases z)) (r q hq)
theorem RawsAt.same {H H' : Hp} {rs : List Po} (r : RawsAt H rs) (x : Same H H') : RawsAt H' rs := fun q hq => x _ _ (r q hq)
def spRing : Sp := fun vs H Q _ => ∃ (p cl lb e : Addr) (labs es : List Str) (c : Nat), vs = [.ref p, .ref lb, .ref e] ∧ PenAt H p cl c ∧ H lb = some (.lst (labs.map V.str)) ∧ H e = some (.lst (es.map V.str)) ∧ es ≠ [] ∧ es.length ≤ 4 ∧ 4 ≤ labs.length ∧ labs.length ≤ 20 ∧ c + 40 ≤ 1000000 ∧
  ∀ (H' : Hp) (q : Addr) (rs : List Po), Ex p H H' → PenAt H' p cl (c + 40) → H q = none → H' q = some (.lst (refs rs)) → RawsAt H' rs → (∀ r ∈ rs, RawOk es r.2) → rs.map (fun r => r.2.name) = labs.take es.length → Q (.ref q) H'
section
variable {P : Program} {w : World} {K : PySem.W.Frag} {mg : Str → Option Value} {base : Heap} {cO cC cM f : Addr} {fd : FuncData}
abbrev s_law_ring : Stmt := top 56
abbrev Nlaw_ring : List Str := ["_law_pen_here", "_law_labels", "_law_ends", "_law_rates", "_law_found", "_law_free", "_law_k", "_law_p", "_law_q", "_law_cost"]
theorem sclaw_ring : FnScope Nlaw_ring ["_law_pen_here", "_law_labels", "_law_ends"] (defScope s_law_ring) := ⟨rfl, rfl, rfl, by decide +kernel, rfl, by decide +kernel, by decide +kernel⟩
theorem ok_law_ring (F : FD K "_law_ring" s_law_ring f fd) (T : Tx K mg cO cC cM) (c__law_draw : C8.Cal P w K mg base 1 "_law_draw" spDraw []) (c__law_pick : C8.Cal P w K mg base 2 "_law_pick" spPick []) : FnOk P w K mg base CX0 3 f fd ["_law_pen_here", "_law_labels", "_law_ends"] spRing := by
  refine ok0 F sclaw_ring (fun vs H Q E h => ?_) (fun cdv A outer s H vs Q E hr h => ?_)
  · obtain ⟨p, cl, lb, e, labs, es, c, rfl, _⟩ := h
    rfl
  · obtain ⟨p, cl, lb, e, labs, es, c, rfl, hp, hlb, he, hne, h4', hl4, hl20, hc, k⟩ := h
    have hep := hp.ne he (by intro q z; cases z)
    have hlp := hp.ne hlb (by intro q z; cases z)
    have hpos : 0 < es.length := List.length_pos_iff.mpr hne
    refine ⟨_, (pss_cons (ps_set (i := 3) sclaw_ring.nd rfl (Or.inl rfl) (C8.pe_c c__law_pick hr (by decide) (by rfl) (pa_cons (pv 0) (pa_cons (pe_lst (pa_cons (pe_lst (pa_cons (pe_tup (pa_cons pe_int (pa_cons pe_int pa_nil))) (pa_cons (pe_tup (pa_cons pe_int (pa_cons pe_int pa_nil))) pa_nil))) (pa_cons (pe_lst (pa_cons (pe_tup (pa_cons pe_int (pa_cons pe_int pa_nil))) (pa_cons (pe_tup (pa_cons pe_int (pa_cons pe_int pa_nil))) pa_nil))) (pa_cons (pe_lst (pa_cons (pe_tup (pa_cons pe_int (pa_cons pe_int pa_nil))) (pa_cons (pe_tup (pa_cons pe_int (pa_cons pe_int pa_nil))) pa_nil))) (pa_cons (pe_lst (pa_cons (pe_tup (pa_cons pe_int (pa_cons pe_int pa_nil))) (pa_cons (pe_tup (pa_cons pe_int (pa_cons pe_int pa_nil))) pa_nil))) (pa_cons (pe_lst (pa_cons (pe_tup (pa_cons pe_int (pa_cons pe_int pa_nil))) (pa_cons (pe_tup (pa_cons pe_int (pa_cons pe_int pa_nil))) pa_nil))) pa_nil)))))) pa_nil))))
    (pss_cons (ps_set (i := 3) sclaw_ring.nd rfl (Or.inl rfl) (C8.pe_c c__law_pick hr (by decide) (by rfl) (pa_cons (pv 0) (pa_cons (pe_lst (pa_cons (pv 3) (pa_cons (pv 3) (pa_cons (pe_lst (pa_cons (pe_tup (pa_cons pe_int (pa_cons pe_int pa_nil))) pa_nil)) (pa_cons (pe_lst (pa_cons (pe_tup (pa_cons pe_int (pa_cons pe_int pa_nil))) pa_nil)) pa_nil))))) pa_nil))))
    (pss_cons (ps_par (i := 4) (j := 5) (by rfl) sclaw_ring.nd rfl rfl (by decide) rfl rfl (pa_cons (pe_lst pa_nil) (pa_cons (C8.pe_c c__law_pick hr (by decide) (by rfl) (pa_cons (pv 0) (pa_cons (pe_lst (pa_cons pe_int (pa_cons pe_int (pa_cons (C8.pe_c c__law_draw hr (by decide) (by rfl) (pa_cons (pv 0) (pa_cons pe_int pa_nil))) pa_nil)))) pa_nil))) pa_nil)) (by rfl))
    (pss_cons (ps_for PassesOwn.never rfl (pi_range1 (by rfl) T.b_range (pa_cons (pe_callB call_len_seq (by rfl) T.b_len bt_len (pa_cons (pv 2) pa_nil)) pa_nil)) (pg_name (i := 6) sclaw_ring.nd rfl (Or.inl rfl)) (C8.pss_cut (ps_asg (pe_ifExp (pt_cmpR op_lt (pv 6) (pe_callB call_len_seq (by rfl) T.b_len bt_len (pa_cons (pv 3) pa_nil)) (nomark _)) (pe_ix ix_list (pv 3) (pv 6) (fun _ _ => rfl)) (pe_tup (pa_cons pe_int (pa_cons pe_int pa_nil)))) (pg_tup rfl (pgs_cons (pg_name (i := 7) sclaw_ring.nd rfl (Or.inl rfl)) (pgs_cons (pg_name (i := 8) sclaw_ring.nd rfl (Or.inl rfl)) pgs_nil))))
      (pss_cons (ps_set (i := 9) sclaw_ring.nd rfl (Or.inl rfl) (pe_op op_mul (pv 5) (pe_callTy call_int1 (by rfl) T.b_int bt_int (pa_cons (pe_cmpR op_eq (pv 6) pe_int (nomark _)) pa_nil))))
      (pss_one (ps_expr (pe_bm PySem.F.plainAttrs_list PySem.F.slot_list_append PySem.F.type_list_append mt_append (pv 4) (pa_cons (pe_tup (pa_cons (pe_ix ix_list (pv 1) (pv 6) (fun _ _ => rfl)) (pa_cons (pe_ix ix_list (pv 2) (pv 6) (fun _ _ => rfl)) (pa_cons (pe_ix ix_list (pv 2) (pe_op op_mod (pe_callTy call_int1 (by rfl) T.b_int bt_int (pa_cons (pe_op op_add (pv 6) pe_int) pa_nil)) (pe_callB call_len_seq (by rfl) T.b_len bt_len (pa_cons (pv 2) pa_nil))) (fun _ _ => rfl)) (pa_cons (pv 7) (pa_cons (pv 8) (pa_cons (pv 9) (pa_cons (C8.pe_c c__law_draw hr (by decide) (by rfl) (pa_cons (pv 0) (pa_cons pe_int pa_nil))) (pa_cons pe_non pa_nil))))))))) pa_nil)))))))
    (pss_one (ps_ret (pv 4))))))), ?_⟩
    refine ⟨_, rfl, (by show 2 ≤ sizeLine; decide), fun t1 h1 => ⟨(by show 2 ≤ sizeLine; decide), fun t2 h2 => ⟨(by show 2 ≤ sizeLine; decide), fun l1 g1 => ?_⟩⟩⟩
    have A1 := rates2 (by decide) (by decide) h1 h2 g1
    refine ⟨(by show 2 ≤ sizeLine; decide), fun t3 h3 => ⟨(by show 2 ≤ sizeLine; decide), fun t4 h4 => ⟨(by show 2 ≤ sizeLine; decide), fun l2 g2 => ?_⟩⟩⟩
    have A2 := rates2 (by decide) (by decide) h3 h4 g2
    refine ⟨(by show 2 ≤ sizeLine; decide), fun t5 h5 => ⟨(by show 2 ≤ sizeLine; decide), fun t6 h6 => ⟨(by show 2 ≤ sizeLine; decide), fun l3 g3 => ?_⟩⟩⟩
    have A3 := rates2 (by decide) (by decide) h5 h6 g3
    refine ⟨(by show 2 ≤ sizeLine; decide), fun t7 h7 => ⟨(by show 2 ≤ sizeLine; decide), fun t8 h8 => ⟨(by show 2 ≤ sizeLine; decide), fun l4 g4 => ?_⟩⟩⟩
    have A4 := rates2 (by decide) (by decide) h7 h8 g4
    refine ⟨(by show 2 ≤ sizeLine; decide), fun t9 h9 => ⟨(by show 2 ≤ sizeLine; decide), fun t10 h10 => ⟨(by show 2 ≤ sizeLine; decide), fun l5 g5 => ?_⟩⟩⟩
    have A5 := rates2 (by decide) (by decide) h9 h10 g5
    refine ⟨(by show 5 ≤ sizeLine; decide), fun L gL => ?_⟩
    have S5 := (((A1.1.trans A2.1).trans A3.1).trans A4.1).trans A5.1
    have SL := same_put (Same.refl _) gL (o := .lst [.ref l1, .ref l2, .ref l3, .ref l4, .ref l5])
    have R1 := ((((A1.2.same A2.1).same A3.1).same A4.1).same A5.1).same SL
    have R2 := (((A2.2.same A3.1).same A4.1).same A5.1).same SL
    have R3 := ((A3.2.same A4.1).same A5.1).same SL
    have R4 := (A4.2.same A5.1).same SL
    have R5 := A5.2.same SL
    have S6 := S5.trans SL
    have p1 := hp.same S6
    refine ⟨p, cl, _, c, rfl, p1, by omega, .inr ⟨L, _, rfl, upd_same, by simp, by show 5 ≤ 1000; decide, fun H2 y hy x2 p2 => ?_⟩⟩
    have x02 := (Ex.of (p := p) S6).trans x2
    obtain ⟨la, rfl, RA⟩ : ∃ la, y = V.ref la ∧ RatesAt H2 la := by
      simp only [List.mem_cons, List.not_mem_nil, or_false] at hy
      rcases hy with h | h | h | h | h
      · exact ⟨_, h, R1.ex x2 p1⟩
      · exact ⟨_, h, R2.ex x2 p1⟩
      · exact ⟨_, h, R3.ex x2 p1⟩
      · exact ⟨_, h, R4.ex x2 p1⟩
      · exact ⟨_, h, R5.ex x2 p1⟩
    clear R1 R2 R3 R4 R5 A1 A2 A3 A4 A5 S5 SL
    refine ⟨_, rfl, _, rfl, _, rfl, (by show 2 ≤ sizeLine; decide), fun u1 i1 => ⟨(by show 1 ≤ sizeLine; decide), fun m1 j1 => ?_⟩⟩
    have B1 := rates1 (by decide) i1 j1
    refine ⟨(by show 2 ≤ sizeLine; decide), fun u2 i2 => ⟨(by show 1 ≤ sizeLine; decide), fun m2 j2 => ⟨(by show 4 ≤ sizeLine; decide), fun M gM => ?_⟩⟩⟩
    have B2 := rates1 (by decide) i2 j2
    have SM := same_put (Same.refl _) gM (o := .lst [.ref la, .ref la, .ref m1, .ref m2])
    have S8 := (B1.1.trans B2.1).trans SM
    have p3 := p2.same S8
    refine ⟨p, cl, _, c + 1, rfl, p3, by omega, .inr ⟨M, _, rfl, upd_same, by simp, by show 4 ≤ 1000; decide, fun H3 y hy x3 p4 => ?_⟩⟩
    have x03 := (x02.trans (Ex.of (p := p) S8)).trans x3
    obtain ⟨lr, rfl, RR⟩ : ∃ la, y = V.ref la ∧ RatesAt H3 la := by
      simp only [List.mem_cons, List.not_mem_nil, or_false] at hy
      rcases hy with h | h | h | h
      · exact ⟨_, h, (RA.same S8).ex x3 p3⟩
      · exact ⟨_, h, (RA.same S8).ex x3 p3⟩
      · exact ⟨_, h, ((B1.2.same B2.1).same SM).ex x3 p3⟩
      · exact ⟨_, h, (B2.2.same SM).ex x3 p3⟩
    clear RA B1 B2 SM S8 p3 x2 x3 p1 p2 i1 i2 j1 j2 gM h1 h2 g1 h3 h4 g2 h5 h6 g3 h7 h8 g4 h9 h10 g5 gL S6
    -- the new list, what is free
    refine ⟨Nat.zero_le _, fun q hq => ?_⟩
    have hq0 : H q = none := x03.free p4 hq
    have hlrq : lr ≠ q := by
      obtain ⟨ts, r1, _⟩ := RR
      exact ne_of_none r1 hq
    have nqp := p4.nn hq
    have nqc := p4.nc hq
    have x04 := x03.put (.inr hq0) (o := .lst [])
    have p5 := p4.new hq (o := .lst [])
    have RR4 := RR.same (same_put (Same.refl _) hq (o := .lst []))
    have q4 : (upd H3 q (.lst [])) q = some (.lst []) := upd_same
    generalize upd H3 q (.lst []) = H4 at x04 p5 RR4 q4
    refine ⟨_, rfl, _, rfl, p, cl, 21, c + 2, rfl, p5, by omega, by omega, by omega, fun H5 d d0 d1 x5 p6 => ⟨(by show 3 ≤ sizeLine; decide), fun l hl => ?_⟩⟩
    have x05 := x04.trans x5
    refine ⟨p, cl, _, c + 3, rfl, p6.new hl, by omega, .inr ⟨l, _, rfl, upd_same, by simp, by show 3 ≤ 1000; decide, fun H6 y hy x6 p7 => ?_⟩⟩
    have sl := same_put (Same.refl H5) hl (o := .lst [.int 0, .int 1, .int d])
    have x06 := (x05.trans (Ex.of (p := p) sl)).trans x6
    have q6 : H6 q = some (.lst []) := x6 _ _ nqp (sl _ _ (x5 _ _ nqp q4))
    have RR6 : RatesAt H6 lr := ((RR4.ex x5 p5).same sl).ex x6 (p6.same sl)
    obtain ⟨fr, rfl, fr0, fr20⟩ : ∃ z : Int, y = .int z ∧ 0 ≤ z ∧ z ≤ 20 := by
      simp only [List.mem_cons, List.not_mem_nil, or_false] at hy
      rcases hy with h | h | h
      · exact ⟨_, h, by decide, by decide⟩
      · exact ⟨_, h, by decide, by decide⟩
      · exact ⟨_, h, by omega, by omega⟩
    have he6 := x06 _ _ hep he
    refine ⟨_, _, rfl, ?_⟩
    refine ⟨_, rfl, e, _, rfl, .inl (SqL.of he6), _, rfl, by rw [List.length_map]; omega, by rw [List.length_map]; omega, ?_⟩
    refine for_it (walk_range (lo := 0) (n := ((es.map V.str).length : Int).toNat)) (fun i σ H' => Ex p H H' ∧ PenAt H' p cl (c + 4 + i) ∧ RatesAt H' lr ∧ ∃ (rs : List Po) (v1 v2 v3 v4 : Option V), σ = [some (.ref p), some (.ref lb), some (.ref e), some (.ref lr), some (.ref q), some (.int fr), v1, v2, v3, v4] ∧ H' q = some (.lst (refs rs)) ∧ RawsAt H' rs ∧ (∀ r ∈ rs, RawOk es r.2) ∧ rs.length = i ∧ rs.map (fun r => r.2.name) = labs.take i)
      ⟨x06, p7, RR6, [], _, _, _, _, rfl, q6, fun r hr => absurd hr List.not_mem_nil, fun r hr => absurd hr List.not_mem_nil, rfl, rfl⟩ (fun _ _ _ _ _ => trivial) ?_ ?_
    · rintro i y σ H7 H8 hi ⟨x7, p8, RR7, rs, v1, v2, v3, v4, rfl, q7, hra, hrok, hrl, hrn⟩ ⟨e8, rfl⟩
      subst e8
      have hie : i < es.length := by rw [List.length_map] at hi; omega
      have he7 := x7 _ _ hep he
      have hlb7 := x7 _ _ hlp hlb
      refine ⟨fun σ' H' => ∃ a b : Int, (1 ≤ a ∧ a ≤ 9 ∧ 1 ≤ b ∧ b ≤ 9) ∧ σ' = [some (.ref p), some (.ref lb), some (.ref e), some (.ref lr), some (.ref q), some (.int fr), some (.int (0 + (i : Nat))), some (.int a), some (.int b), v4] ∧ Same H8 H', ?_, ?_⟩
      · obtain ⟨ts, r1, r2, r3⟩ := id RR7
        refine ⟨_, rfl, _, rfl, lr, _, rfl, .inl (SqL.of r1), _, _, rfl, rfl, _, rfl, ?_⟩
        by_cases hk : (0 + ((i : Nat) : Int)) < ((ts.map V.ref).length : Int)
        · rw [decide_eq_true hk]
          have hts : i < ts.length := by rw [List.length_map] at hk; omega
          obtain ⟨a, b, ht, hab⟩ := r3 _ (List.getElem_mem hts)
          have eat := atI_nat (xs := ts.map V.ref) (j := i) (v := .ref ts[i]) (by rw [List.getElem?_map, List.getElem?_eq_getElem hts]; rfl)
          rw [show ((i : Nat) : Int) = 0 + (i : Nat) by omega] at eat
          exact iteT ⟨_, rfl, _, rfl, lr, _, _, _, rfl, rfl, SqL.of r1, eat, ts[i], _, rfl, SqT.of ht, rfl, _, _, rfl, _, _, rfl, rfl, a, b, hab, rfl, Same.refl _⟩
        · rw [decide_eq_false hk]
          refine iteF ⟨(by show 2 ≤ sizeLine; decide), fun t ht => ⟨t, _, rfl, SqT.of upd_same, rfl, _, _, rfl, _, _, rfl, rfl, 1, 1, by decide, rfl, same_put (Same.refl _) ht⟩⟩
      · rintro σ' H9 ⟨a, b, hab, rfl, s9⟩
        have he9 := s9 _ _ he7
        have hlb9 := s9 _ _ hlb7
        have q9 := s9 _ _ q7
        refine ⟨_, rfl, _, rfl, rfl, .inr ⟨_, rfl, _, _, rfl, rfl, .inl ⟨by omega, by omega⟩, ?_⟩⟩
        generalize hcost : fr * (if decide (V.int (0 + ((i : Nat) : Int)) = V.int 0) = true then (1 : Int) else 0) = cost
        have hc0 : 0 ≤ cost ∧ cost ≤ 20 := by
          rw [← hcost]
          split
          · rw [Int.mul_one]; exact ⟨fr0, fr20⟩
          · rw [Int.mul_zero]; exact ⟨by decide, by decide⟩
        have hil : i < labs.length := by omega
        have eL := atI_nat (xs := labs.map V.str) (j := i) (v := .str labs[i]) (by rw [List.getElem?_map, List.getElem?_eq_getElem hil]; rfl)
        have eE := atI_nat (xs := es.map V.str) (j := i) (v := .str es[i]) (by rw [List.getElem?_map, List.getElem?_eq_getElem hie]; rfl)
        have hmod := mod_rng (a := (0 + ((i : Nat) : Int)) + 1) (n := ((es.map V.str).length : Int)) (by rw [List.length_map]; omega)
        have hm2 := hmod.2
        have hj : (((0 + ((i : Nat) : Int)) + 1) % ((es.map V.str).length : Int)).toNat < es.length := by
          rw [List.length_map] at hm2 ⊢
          have := hmod.1
          rw [List.length_map] at this
          omega
        have eG := atI_nat (xs := es.map V.str) (j := (((0 + ((i : Nat) : Int)) + 1) % ((es.map V.str).length : Int)).toNat) (v := .str es[(((0 + ((i : Nat) : Int)) + 1) % ((es.map V.str).length : Int)).toNat]) (by rw [List.getElem?_map, List.getElem?_eq_getElem hj]; rfl)
        rw [Int.toNat_of_nonneg hmod.1] at eG
        rw [show ((i : Nat) : Int) = 0 + (i : Nat) by omega] at eL eE
        have p9 : PenAt H9 p cl (c + 4 + i) := p8.same s9
        refine ⟨_, rfl, .inl ⟨rfl, _, SqL.of q9⟩, _, rfl, _, rfl, lb, _, _, _, rfl, rfl, SqL.of hlb9, eL, _, rfl, _, rfl, e, _, _, _, rfl, rfl, SqL.of he9, eE, _, rfl, _, rfl, _, _, rfl, rfl, .inl ⟨_, rfl, _, rfl, e, _, rfl, .inl (SqL.of he9), _, _, rfl, rfl, (by rw [List.length_map]; omega), e, _, _, _, rfl, rfl, SqL.of he9, eG, ?_⟩⟩
        refine ⟨_, rfl, _, rfl, _, rfl, _, rfl, p, cl, 3, c + 4 + i, rfl, p9, by omega, by omega, by omega, fun HA d2 e0 e1 xA pA => ⟨(by show 8 ≤ sizeLine; decide), fun t ht => ?_⟩⟩
        have qA := xA _ _ nqp q9
        have hqt : q ≠ t := ne_of_none qA ht
        have x7A := (x7.trans (Ex.of (p := p) s9)).trans xA
        refine ⟨q, _, _, rfl, rfl, by rw [upd_ne hqt]; exact qA, ?_, ?_⟩
        · rw [List.length_map, hrl]
          exact Nat.lt_of_lt_of_le hie (Nat.le_trans h4' (by decide))
        · have ht0 : H t = none := x7A.free pA ht
          have raA : RawsAt HA rs := ((hra.same s9).ex xA p9)
          refine ⟨(x7A.put (.inr ht0)).put (.inr hq0), (pA.new ht).put nqp nqc, ?_, rs ++ [(t, ⟨labs[i], es[i], es[(((0 + ((i : Nat) : Int)) + 1) % ((es.map V.str).length : Int)).toNat], a, b, cost, d2, none⟩)], _, _, _, _, rfl, ?_, ?_, ?_, by rw [List.length_append, hrl]; rfl, ?_⟩
          · obtain ⟨ts, r1, r2, r3⟩ := (RR7.same s9).ex xA p9
            have nlq : lr ≠ q := hlrq
            refine ⟨ts, by rw [upd_ne nlq, upd_ne (ne_of_none r1 ht)]; exact r1, r2, fun u hu => ?_⟩
            obtain ⟨a', b', hu1, hu2⟩ := r3 u hu
            exact ⟨a', b', by rw [upd_ne (ne_of hu1 qA (by intro z; cases z)), upd_ne (ne_of_none hu1 ht)]; exact hu1, hu2⟩
          · rw [upd_same]
            show some (HO.lst (refs rs ++ _)) = some (HO.lst ((rs ++ [_]).map _))
            rw [List.map_append]
            rfl
          · intro r hr2
            rcases List.mem_append.mp hr2 with h | h
            · rw [upd_ne (ne_of (raA r h) qA (by intro z; cases z)), upd_ne (ne_of_none (raA r h) ht)]
              exact raA r h
            · rw [List.mem_singleton.mp h, upd_ne hqt.symm, upd_same, ← hcost]
              rfl
          · intro r hr2
            rcases List.mem_append.mp hr2 with h | h
            · exact hrok r h
            · rw [List.mem_singleton.mp h]
              exact ⟨List.getElem_mem _, List.getElem_mem _, hab.1, hab.2.1, hab.2.2.1, hab.2.2.2, hc0.1, hc0.2, e0, by show d2 ≤ 1000; omega, fun m hm => nomatch hm⟩
          · rw [List.map_append, hrn, List.take_succ, List.getElem?_eq_getElem hil]
            rfl
    · rintro σ H7 ⟨x7, p8, RR7, rs, v1, v2, v3, v4, rfl, q7, hra, hrok, hrl, hrn⟩
      have e3 : ((es.map V.str).length : Int).toNat = es.length := by rw [List.length_map]; omega
      rw [e3] at hrn p8
      exact ⟨_, rfl, k H7 q rs x7 (p8.mono (by omega)) hq0 q7 hra hrok hrn⟩
end
end Rd
end T_W14
section T_W15
set_option Elab.async false
set_option linter.all false
set_option maxRecDepth 100000
set_option maxHeartbeats 4000000
/-! Raw markets. -/
namespace Rd
open PySem PySem.Spec PyProof.Rows L2
abbrev kE : Key := Sum.inr "ends"
abbrev kO : Key := Sum.inr "offices"
theorem keo : ¬ (kE = kO) := by decide +kernel
def rawD (e b : Addr) : List (Key × V) := [(kE, .ref e), (kO, .ref b)]
theorem raw_e (e b : Addr) : valV (rawD e b) kE = some (.ref e) := valV_pos rfl
theorem raw_o (e b : Addr) : valV (rawD e b) kO = some (.ref b) := by
  unfold rawD
  rw [valV_neg keo, valV_pos rfl]
theorem rget_e {H : Hp} {d e b : Addr} (h : H d = some (.dK (rawD e b))) : DGet H d (.str "ends") (some (.ref e)) := raw_e e b ▸ DGet.k (k := kE) h
theorem rget_o {H : Hp} {d e b : Addr} (h : H d = some (.dK (rawD e b))) : DGet H d (.str "offices") (some (.ref b)) := raw_o e b ▸ DGet.k (k := kO) h
theorem raw_merge (e b : Addr) : mergeK [] (rawD e b) = rawD e b := by
  have h1 : valV (κ := Key) [] kE = none := rfl
  have h2 : valV [(kE, V.ref e)] kO = none := by rw [valV_neg keo]; rfl
  show putK (putK [] kE (V.ref e)) kO (V.ref b) = _
  rw [putK_new _ h1]
  show putK [(kE, V.ref e)] kO (V.ref b) = _
  rw [putK_new _ h2]
  rfl
theorem perm_map_inv {α β : Type} {f : α → β} : ∀ {ys xs : List β}, ys.Perm xs → ∀ rs : List α, xs = rs.map f → ∃ rs' : List α, ys = rs'.map f ∧ rs'.Perm rs := by
  intro ys xs h
  induction h with
  | nil =>
    intro rs e
    obtain rfl : rs = [] := by
      cases rs with
      | nil => rfl
      | cons r rs => cases e
    exact ⟨[], rfl, .nil⟩
  | cons x h ih =>
    intro rs e
    cases rs with
    | nil => cases e
    | cons r rs =>
      rw [List.map_cons] at e
      obtain ⟨h1, h2⟩ := List.cons.inj e
      obtain ⟨rs', e1, p1⟩ := ih rs h2
      exact ⟨r :: rs', by rw [List.map_cons, e1, h1], p1.cons r⟩
  | swap x y l =>
    intro rs e
    cases rs with
    | nil => cases e
    | cons r rs =>
      cases rs with
      | nil => cases e
      | cons r2 rs =>
        rw [List.map_cons, List.map_cons] at e
        obtain ⟨h1, h2⟩ := List.cons.inj e
        obtain ⟨h3, h4⟩ := List.cons.inj h2
        exact ⟨r2 :: r :: rs, by rw [List.map_cons, List.map_cons, h1, h3, h4], List.Perm.swap _ _ _⟩
  | trans h1 h2 ih1 ih2 =>
    intro rs e
    obtain ⟨rs1, e1, p1⟩ := ih2 rs e
    obtain ⟨rs2, e2, p2⟩ := ih1 rs1 e1
    exact ⟨rs2, e2, p2.trans p1⟩
theorem RawOk.perm {es es' : List Str} {o : Off} (r : RawOk es o) (h : ∀ z, z ∈ es → z ∈ es') : RawOk es' o :=
  ⟨h _ r.s, h _ r.g, r.p1, r.p9, r.q1, r.q9, r.f0, r.f20, r.l0, r.l1, r.c⟩
/-- a raw market: the names at e, the offices at b -/
structure RawAt (H : Hp) (d e b : Addr) (es : List Str) (rs : List Po) : Prop where
  d : H d = some (.dK (rawD e b))
  e : H e = some (.lst (es.map V.str))
  b : H b = some (.lst (refs rs))
  ne : es ≠ []
  l4 : es.length ≤ 4
  en : ∀ z ∈ es, NameOk z
  nd : es.Nodup
  raws : RawsAt H rs
  ok : ∀ r ∈ rs, RawOk es r.2
  nm : ∀ r ∈ rs, NameOk r.2.name
  rn : (rs.map fun r => r.2.name).Nodup
  l12 : rs.length ≤ 12
def spRaw : Sp := fun vs H Q _ => ∃ (p cl : Addr) (c : Nat), vs = [.ref p, .int 8, .int 9] ∧ PenAt H p cl c ∧ c + 1000 ≤ 1000000 ∧
  ∀ (H' : Hp) (d e b : Addr) (es : List Str) (rs : List Po), Ex p H H' → PenAt H' p cl (c + 1000) → H d = none → RawAt H' d e b es rs → Q (.ref d) H'
def spOne (cO cC : Addr) : Sp := fun vs H Q _ => ∃ (t : Addr) (o : Off), vs = [.ref t] ∧ H t = some (.tup (rawOf o)) ∧ OffN o ∧ ∀ (H' : Hp) (a : Addr), Same H H' → OffAt cO cC H' a o → Q (.ref a) H'
def spMade (cO cC cM : Addr) : Sp := fun vs H Q _ => ∃ (d e b : Addr) (es : List Str) (rs : List Po), vs = [.ref d] ∧ RawAt H d e b es rs ∧ ∀ (H' : Hp) (m : Addr) (cs : List Str) (ps : List Po), Same H H' → MktAt cO cC cM H' m cs ps → OffsOk cs ps → cs.Perm es → Q (.ref m) H'
section
variable {P : Program} {w : World} {K : PySem.W.Frag} {mg : Str → Option Value} {base : Heap} {cO cC cM f : Addr} {fd : FuncData}
abbrev s_law_one : Stmt := top 58
abbrev Nlaw_one : List Str := ["_law_one_here"]
theorem sclaw_one : FnScope Nlaw_one ["_law_one_here"] (defScope s_law_one) := ⟨rfl, rfl, rfl, by decide +kernel, rfl, by decide +kernel, by decide +kernel⟩
theorem ok_law_one (F : FD K "_law_one" s_law_one f fd) (T : Tx K mg cO cC cM) (c_Office : MakK P w K mg base 3 "Office" cO 4 ["fee", "least"] (spOffInit cO cC)) (c_CappedOffice : MakK P w K mg base 4 "CappedOffice" cC 4 ["most", "fee", "least"] (spCapInit cC)) : FnOk P w K mg base CX0 6 f fd ["_law_one_here"] (spOne cO cC) := by
  refine ok0 F sclaw_one (fun vs H Q E h => ?_) (fun cdv A outer s H vs Q E hr h => ?_)
  · obtain ⟨t, o, rfl, _⟩ := h
    rfl
  · obtain ⟨t, o, rfl, ht, on, k⟩ := h
    have at_ : ∀ {i : Nat} {v : V}, (rawOf o)[i]? = some v → atI (rawOf o) (i : Int) = some v := fun h => atI_nat h
    refine ⟨_, (pss_cons (ps_if (pt_cmpR op_isN (pe_ix ix_tup (pv 0) pe_int (fun _ _ => rfl)) pe_non (nomark _)) (pss_one (ps_ret (pe_mkk c_Office hr (by decide) (by rfl) (pa_cons (pe_ix ix_tup (pv 0) pe_int (fun _ _ => rfl)) (pa_cons (pe_ix ix_tup (pv 0) pe_int (fun _ _ => rfl)) (pa_cons (pe_ix ix_tup (pv 0) pe_int (fun _ _ => rfl)) (pa_cons (pe_tup (pa_cons (pe_ix ix_tup (pv 0) pe_int (fun _ _ => rfl)) (pa_cons (pe_ix ix_tup (pv 0) pe_int (fun _ _ => rfl)) pa_nil))) pa_nil)))) (pk_cons (pe_ix ix_tup (pv 0) pe_int (fun _ _ => rfl)) (pk_cons (pe_ix ix_tup (pv 0) pe_int (fun _ _ => rfl)) pk_nil))))) pss_nil)
    (pss_one (ps_ret (pe_mkk c_CappedOffice hr (by decide) (by rfl) (pa_cons (pe_ix ix_tup (pv 0) pe_int (fun _ _ => rfl)) (pa_cons (pe_ix ix_tup (pv 0) pe_int (fun _ _ => rfl)) (pa_cons (pe_ix ix_tup (pv 0) pe_int (fun _ _ => rfl)) (pa_cons (pe_tup (pa_cons (pe_ix ix_tup (pv 0) pe_int (fun _ _ => rfl)) (pa_cons (pe_ix ix_tup (pv 0) pe_int (fun _ _ => rfl)) pa_nil))) pa_nil)))) (pk_cons (pe_ix ix_tup (pv 0) pe_int (fun _ _ => rfl)) (pk_cons (pe_ix ix_tup (pv 0) pe_int (fun _ _ => rfl)) (pk_cons (pe_ix ix_tup (pv 0) pe_int (fun _ _ => rfl)) pk_nil))))))), ?_⟩
    refine ⟨_, rfl, t, _, _, _, rfl, rfl, SqT.of ht, at_ (i := 7) rfl, rfl, _, rfl, ?_⟩
    cases hc : o.cap with
    | none =>
      refine iteT ⟨_, rfl, t, _, _, _, rfl, rfl, SqT.of ht, at_ (i := 0) rfl, _, rfl, t, _, _, _, rfl, rfl, SqT.of ht, at_ (i := 1) rfl, _, rfl, t, _, _, _, rfl, rfl, SqT.of ht, at_ (i := 2) rfl, _, rfl, t, _, _, _, rfl, rfl, SqT.of ht, at_ (i := 3) rfl, _, rfl, t, _, _, _, rfl, rfl, SqT.of ht, at_ (i := 4) rfl, (by show 2 ≤ sizeLine; decide), fun rt hrt => ?_⟩
      have s1 := same_put (Same.refl H) hrt (o := .tup [.int o.p, .int o.q])
      have ht1 := s1 _ _ ht
      refine ⟨_, rfl, t, _, _, _, rfl, rfl, SqT.of ht1, at_ (i := 5) rfl, _, rfl, t, _, _, _, rfl, rfl, SqT.of ht1, at_ (i := 6) rfl, rfl, rfl, fun x dx nx ndx nex => ?_⟩
      have rtn := ne_of_none (upd_same (H := H) (a := rt) (o := .tup [.int o.p, .int o.q])) nx
      have rtd := ne_of_none (upd_same (H := H) (a := rt) (o := .tup [.int o.p, .int o.q])) ndx
      have hrt2 : (upd (upd (upd H rt (.tup [.int o.p, .int o.q])) dx (.own x)) x (.ins cO dx [])) rt = some (.tup [.int o.p, .int o.q]) := by rw [upd_ne rtn, upd_ne rtd, upd_same]
      refine ⟨x, rt, cO, dx, o, rfl, on, .inl rfl, upd_same, hrt2, fun H' e k1 he hx => ⟨rfl, k H' x (s1.trans (Same.made nx ndx fun b u hu hb => k1 b u hb hu)) ⟨dx, e, rt, he, k1 _ _ rtn hrt2, ?_⟩⟩⟩
      unfold clsOf offFull
      rw [hc]
      exact hx
    | some m =>
      refine iteF ⟨_, rfl, t, _, _, _, rfl, rfl, SqT.of ht, at_ (i := 0) rfl, _, rfl, t, _, _, _, rfl, rfl, SqT.of ht, at_ (i := 1) rfl, _, rfl, t, _, _, _, rfl, rfl, SqT.of ht, at_ (i := 2) rfl, _, rfl, t, _, _, _, rfl, rfl, SqT.of ht, at_ (i := 3) rfl, _, rfl, t, _, _, _, rfl, rfl, SqT.of ht, at_ (i := 4) rfl, (by show 2 ≤ sizeLine; decide), fun rt hrt => ?_⟩
      have s1 := same_put (Same.refl H) hrt (o := .tup [.int o.p, .int o.q])
      have ht1 := s1 _ _ ht
      have e7 : (rawOf o)[7]? = some (.int m) := by unfold rawOf; rw [hc]; rfl
      refine ⟨_, rfl, t, _, _, _, rfl, rfl, SqT.of ht1, at_ (i := 7) e7, _, rfl, t, _, _, _, rfl, rfl, SqT.of ht1, at_ (i := 5) rfl, _, rfl, t, _, _, _, rfl, rfl, SqT.of ht1, at_ (i := 6) rfl, rfl, rfl, fun x dx nx ndx nex => ?_⟩
      have rtn := ne_of_none (upd_same (H := H) (a := rt) (o := .tup [.int o.p, .int o.q])) nx
      have rtd := ne_of_none (upd_same (H := H) (a := rt) (o := .tup [.int o.p, .int o.q])) ndx
      have hrt2 : (upd (upd (upd H rt (.tup [.int o.p, .int o.q])) dx (.own x)) x (.ins cC dx [])) rt = some (.tup [.int o.p, .int o.q]) := by rw [upd_ne rtn, upd_ne rtd, upd_same]
      refine ⟨x, rt, dx, o, m, rfl, hc, on, upd_same, hrt2, fun H' e k1 he hx => ⟨rfl, k H' x (s1.trans (Same.made nx ndx fun b u hu hb => k1 b u hb hu)) ⟨dx, e, rt, he, k1 _ _ rtn hrt2, ?_⟩⟩⟩
      unfold clsOf
      rw [hc]
      exact hx
abbrev s_law_made : Stmt := top 59
abbrev Nlaw_made : List Str := ["_law_raw_here", "_law_one_here"]
theorem sclaw_made : FnScope Nlaw_made ["_law_raw_here"] (defScope s_law_made) := ⟨rfl, rfl, rfl, by decide +kernel, rfl, by decide +kernel, by decide +kernel⟩
theorem ok_law_made (F : FD K "_law_made" s_law_made f fd) (T : Tx K mg cO cC cM) (c__law_one : C8.Cal P w K mg base 6 "_law_one" (spOne cO cC) []) (c_Market : C8.Mak P w K mg base 5 "Market" cM (spMktInit cO cC cM) []) : FnOk P w K mg base CX0 7 f fd ["_law_raw_here"] (spMade cO cC cM) := by
  refine ok0 F sclaw_made (fun vs H Q E h => ?_) (fun cdv A outer s H vs Q E hr h => ?_)
  · obtain ⟨d, e, b, es, rs, rfl, _⟩ := h
    rfl
  · obtain ⟨d, e, b, es, rs, rfl, R, k⟩ := h
    have hu := hu_of hr
    refine ⟨_, (pss_one (ps_ret (C8.pe_mk c_Market hr (by decide) (by rfl) (pa_cons (pe_callTy call_list_of (by rfl) T.b_list bt_list (pa_cons (pe_dget hu (pv 0) pe_str (fun _ _ => rfl)) pa_nil)) (pa_cons (pe_lc (own := [("_law_one_here", 1)]) (g := gName 1) (tt := tYes) rfl sclaw_made.nd (pi_list (pe_dget hu (pv 0) pe_str (fun _ _ => rfl))) (blkOk_by (own := [("_law_one_here", 1)]) (N := Nlaw_made) (sc := defScope s_law_made) (by decide +kernel)) (fun _ _ _ _ _ => (pg_name (i := 1) sclaw_made.nd rfl (Or.inl rfl))) (fun _ _ _ _ _ => pts_nil) (fun _ _ _ _ _ => (C8.pe_c c__law_one hr (by decide) (by rfl) (pa_cons (pv 1) pa_nil)))) pa_nil))))), ?_⟩
    refine ⟨_, rfl, d, _, rfl, rget_e R.d, e, _, rfl, .inl (SqL.of R.e), fun a ha => ?_⟩
    have s1 := same_put (Same.refl H) ha (o := .lst (es.map V.str))
    refine ⟨_, rfl, d, _, rfl, rget_o (s1 _ _ R.d), b, rfl, ⟨_, SqL.of (s1 _ _ R.b)⟩, fun D hD => lc_it (walk_list (K := K) (a := b) (xs := refs rs)) (fun i H' => Same (upd H a (.lst (es.map V.str))) H' ∧ ∃ ps : List Po, ps.length = i ∧ H' D = some (.lst (refs ps)) ∧ OffsAt cO cC H' ps ∧ ps.map (fun p => p.2) = (rs.map fun r => r.2).take i)
      ⟨same_put (Same.refl _) hD, [], rfl, upd_same, fun p hp => absurd hp List.not_mem_nil, rfl⟩ (fun _ _ _ h => SqL.of (h.1 _ _ (s1 _ _ R.b))) (fun i y H1 H2 hi ⟨s2, ps, hl, hD1, hat, hps⟩ ⟨e2, hy⟩ => ?_) fun H1 ⟨s2, ps, hl, hD1, hat, hps⟩ => ?_⟩
    · subst e2
      have hy : (refs rs)[i]? = some y := hy
      rw [List.getElem?_map] at hy
      cases hz : rs[i]? with
      | none => rw [hz] at hy; cases hy
      | some r =>
      rw [hz] at hy
      obtain rfl : V.ref r.1 = y := Option.some.inj hy
      have hr2 : r ∈ rs := List.mem_of_getElem? hz
      have ok := R.ok r hr2
      have s02 := s1.trans s2
      refine ⟨rfl, yes_if ⟨_, rfl, r.1, r.2, rfl, s02 _ _ (R.raws r hr2), ⟨R.nm r hr2, R.en _ ok.s, R.en _ ok.g, ok.p1, ok.p9, ok.q1, ok.q9, ok.f0, ok.f20, ok.l0, ok.l1, ok.c⟩, fun H3 oa s3 oat => ?_⟩⟩
      refine ⟨_, s3 _ _ hD1, ?_, same_put (s2.trans s3) hD, ps ++ [(oa, r.2)], by rw [List.length_append, hl]; rfl, ?_, ?_, ?_⟩
      · rw [List.length_map, hl]
        have hi' : i < rs.length := by rw [List.length_map] at hi; exact hi
        exact Nat.lt_of_lt_of_le hi' (Nat.le_trans R.l12 (by decide))
      · rw [upd_same]
        show some (HO.lst (refs ps ++ _)) = some (HO.lst ((ps ++ [_]).map _))
        rw [List.map_append]
        rfl
      · have pres : ∀ {q : Addr} {o : Off}, OffAt cO cC H3 q o → OffAt cO cC (upd H3 D (.lst (refs ps ++ [V.ref oa]))) q o := fun {q o} h => by
          obtain ⟨dx2, e2, r2, h1, h2, h3⟩ := h
          have hD3 := s3 _ _ hD1
          exact ⟨dx2, e2, r2, by rw [upd_ne (ne_of h1 hD3 (by intro z; cases z))]; exact h1, by rw [upd_ne (ne_of h2 hD3 (by intro z; cases z))]; exact h2, by rw [upd_ne (ne_of h3 hD3 (by intro z; cases z))]; exact h3⟩
        intro p hp
        rcases List.mem_append.mp hp with h | h
        · exact pres ((hat p h).same s3)
        · rw [List.mem_singleton.mp h]; exact pres oat
      · rw [List.map_append, hps, List.take_succ, List.getElem?_map, hz]
        rfl
    · have e3 : (rs.map fun r => r.2).take (refs rs).length = rs.map fun r => r.2 := by rw [List.length_map, List.take_of_length_le (by rw [List.length_map]; exact Nat.le_refl _)]
      rw [e3] at hps
      have s02 := s1.trans s2
      have names : ps.map (fun p => p.2.name) = rs.map fun r => r.2.name := by
        have := congrArg (List.map fun o : Off => o.name) hps
        rw [List.map_map, List.map_map] at this
        exact this
      intro x dx nx ndx nex
      have sm : Same H1 (upd (upd H1 dx (.own x)) x (.ins cM dx [])) := fun b u hu => by rw [upd_ne (ne_of_none hu nx), upd_ne (ne_of_none hu ndx)]; exact hu
      have mem : ∀ p ∈ ps, ∃ r ∈ rs, r.2 = p.2 := fun p hp => by
        have : p.2 ∈ rs.map fun r => r.2 := by rw [← hps]; exact List.mem_map.mpr ⟨p, hp, rfl⟩
        obtain ⟨r, h1, h2⟩ := List.mem_map.mp this
        exact ⟨r, h1, h2⟩
      refine ⟨x, a, D, dx, es, ps, rfl, upd_same, sm _ _ (s2 _ _ upd_same), R.ne, R.l4, R.en, R.nd, sm _ _ hD1, hat.same sm, fun p hp => ?_, ?_, ?_, fun H' cs qs k1 hm hperm hq => ⟨rfl, k H' x cs qs (s02.trans (Same.made nx ndx fun b u hu hb => k1 b u hb hu)) hm (fun q hqm => ?_) hperm⟩⟩
      · obtain ⟨r, h1, h2⟩ := mem p hp
        have ok := R.ok r h1
        rw [← h2]
        exact ⟨⟨R.nm r h1, R.en _ ok.s, R.en _ ok.g, ok.p1, ok.p9, ok.q1, ok.q9, ok.f0, ok.f20, ok.l0, ok.l1, ok.c⟩, ok.s, ok.g⟩
      · rw [names]; exact R.rn
      · rw [hl, List.length_map]; exact Nat.le_trans R.l12 (by decide)
      · obtain ⟨r, h1, h2⟩ := mem q (hq q hqm)
        have ok := R.ok r h1
        rw [← h2]
        exact ⟨⟨R.nm r h1, R.en _ ok.s, R.en _ ok.g, ok.p1, ok.p9, ok.q1, ok.q9, ok.f0, ok.f20, ok.l0, ok.l1, ok.c⟩, hperm.mem_iff.mpr ok.s, hperm.mem_iff.mpr ok.g⟩
end
end Rd
end T_W15
section T_W16
set_option Elab.async false
set_option linter.all false
set_option maxRecDepth 100000
set_option maxHeartbeats 4000000
/-! _law_raw. -/
namespace Rd
open PySem PySem.Spec PyProof.Rows L2
theorem nodup_take {α : Type} {xs : List α} (h : xs.Nodup) (n : Nat) : (xs.take n).Nodup := h.sublist (List.take_sublist _ _)
section
variable {P : Program} {w : World} {K : PySem.W.Frag} {mg : Str → Option Value} {base : Heap} {cO cC cM f : Addr} {fd : FuncData}
abbrev s_law_raw : Stmt := top 57
abbrev Nlaw_raw : List Str := ["_law_pen_here", "_law_many", "_law_top", "_law_ends", "_law_labels", "_law_offices", "_law_label"]
theorem sclaw_raw : FnScope Nlaw_raw ["_law_pen_here", "_law_many", "_law_top"] (defScope s_law_raw) := ⟨rfl, rfl, rfl, by decide +kernel, rfl, by decide +kernel, by decide +kernel⟩
theorem ok_law_raw (F : FD K "_law_raw" s_law_raw f fd) (T : Tx K mg cO cC cM) (c__law_draw : C8.Cal P w K mg base 1 "_law_draw" spDraw []) (c__law_names : C8.Cal P w K mg base 3 "_law_names" spNames []) (c__law_office : C8.Cal P w K mg base 3 "_law_office" spRawOff []) (c__law_ring : C8.Cal P w K mg base 3 "_law_ring" spRing [])
    (c__law_shuffled : C8.Cal P w K mg base 2 "_law_shuffled" spShuf []) : FnOk P w K mg base CX0 4 f fd ["_law_pen_here", "_law_many", "_law_top"] spRaw := by
  refine ok0 F sclaw_raw (fun vs H Q E h => ?_) (fun cdv A outer s H vs Q E hr h => ?_)
  · obtain ⟨p, cl, c, rfl, _⟩ := h
    rfl
  · obtain ⟨p, cl, c, rfl, hp, hc, k⟩ := h
    have hu := hu_of hr
    refine ⟨_, (pss_cons (ps_set (i := 3) sclaw_raw.nd rfl (Or.inr rfl) (pe_slice sl_list (C8.pe_c c__law_names hr (by decide) (by rfl) (pa_cons (pv 0) (pa_cons pe_int pa_nil))) po_none (po_some (pe_op op_add pe_int (C8.pe_c c__law_draw hr (by decide) (by rfl) (pa_cons (pv 0) (pa_cons pe_int pa_nil)))))))
    (pss_cons (ps_set (i := 4) sclaw_raw.nd rfl (Or.inl rfl) (C8.pe_c c__law_names hr (by decide) (by rfl) (pa_cons (pv 0) (pa_cons (pe_op op_add (pv 1) pe_int) pa_nil))))
    (pss_cons (ps_setLc (i := 5) (own := [("_law_label", 6)]) (g := gName 6) (tt := tYes) rfl sclaw_raw.nd rfl rfl (sw_true rfl rfl rfl (by decide +kernel)) (pi_list (pe_slice sl_list (pv 4) (po_some pe_int) (po_some (pe_op op_add pe_int (C8.pe_c c__law_draw hr (by decide) (by rfl) (pa_cons (pv 0) (pa_cons (pe_op op_add (pv 1) pe_int) pa_nil))))))) (blkOk_by (own := [("_law_label", 6)]) (N := Nlaw_raw) (sc := defScope s_law_raw) (by decide +kernel)) (fun _ _ _ _ _ => (pg_name (i := 6) sclaw_raw.nd rfl (Or.inl rfl))) (fun _ _ _ _ _ => pts_nil) (fun _ _ _ _ _ => (C8.pe_c c__law_office hr (by decide) (by rfl) (pa_cons (pv 0) (pa_cons (pv 6) (pa_cons (pv 3) (pa_cons (pv 2) pa_nil)))))))
    (C8.pss_cut (ps_if (pt_cmpR op_eq (C8.pe_c c__law_draw hr (by decide) (by rfl) (pa_cons (pv 0) (pa_cons pe_int pa_nil))) pe_int (nomark _)) (pss_one (ps_set (i := 5) sclaw_raw.nd rfl (Or.inl rfl) (pe_op op_cat (pv 5) (C8.pe_c c__law_ring hr (by decide) (by rfl) (pa_cons (pv 0) (pa_cons (pv 4) (pa_cons (C8.pe_c c__law_shuffled hr (by decide) (by rfl) (pa_cons (pv 0) (pa_cons (pv 3) pa_nil))) pa_nil))))))) pss_nil)
    (pss_one (ps_ret (pe_disp (pps_cons pe_str (pe_callB cr_sortedS (by rfl) T.b_sorted bt_sorted (pa_cons (pv 3) pa_nil)) (pps_cons pe_str (C8.pe_c c__law_shuffled hr (by decide) (by rfl) (pa_cons (pv 0) (pa_cons (pv 5) pa_nil))) pps_nil)) (by rfl) (by rfl) (fun z => by cases z) (by decide)))))))), ?_⟩
    refine ⟨_, rfl, p, cl, 4, c, rfl, hp, by omega, by omega, fun H1 q xs x1 p1 hq hq1 hl nd ok => ?_⟩
    refine ⟨_, rfl, p, cl, 4, c + 100, rfl, p1, by omega, by omega, by omega, fun H2 j j0 j1 x2 p2 => ⟨_, _, rfl, rfl, _, rfl, q, _, rfl, SqL.of (x2 _ _ (p1.ne hq1 (by intro q z; cases z)) hq1), fun e he => ?_⟩⟩
    obtain ⟨kk, hk⟩ : ∃ kk : Nat, 1 + j = (kk : Int) := ⟨(1 + j).toNat, by omega⟩
    rw [hk, cutV_to, ← List.map_take]
    have x02 := x1.trans x2
    have he0 : H e = none := x02.free p2 he
    have nep := p2.nn he
    have x03 := x02.put (.inr he0) (o := .lst ((xs.take kk).map V.str))
    have p3 := p2.new he (o := .lst ((xs.take kk).map V.str))
    have e3 : (upd H2 e (.lst ((xs.take kk).map V.str))) e = some (.lst ((xs.take kk).map V.str)) := upd_same
    generalize upd H2 e (.lst ((xs.take kk).map V.str)) = H3 at x03 p3 e3
    generalize hes : xs.take kk = es at e3
    have es4 : es.length ≤ 4 := by rw [← hes, List.length_take]; omega
    have es0 : es ≠ [] := by
      intro z
      have := congrArg List.length z
      rw [← hes, List.length_take, hl] at this
      simp only [List.length_nil] at this
      omega
    have esN : ∀ z ∈ es, NameOk z := fun z hz => ok z (by rw [← hes] at hz; exact List.mem_of_mem_take hz)
    have esD : es.Nodup := by rw [← hes]; exact nodup_take nd kk
    refine ⟨_, rfl, _, rfl, _, _, rfl, rfl, p, cl, 12, c + 101, rfl, p3, by omega, by omega, fun H4 lb labs x4 p4 hlb hlb4 hll ndl okl => ?_⟩
    have x04 := x03.trans x4
    have e4 := x4 _ _ nep e3
    have nlp : lb ≠ p := p4.ne hlb4 (by intro q z; cases z)
    refine ⟨_, rfl, _, rfl, _, rfl, _, rfl, _, _, rfl, rfl, p, cl, 9, c + 201, rfl, p4, by omega, by omega, by omega, fun H5 i5 a5 b5 x5 p5 => ⟨_, _, rfl, rfl, _, rfl, lb, _, rfl, SqL.of (x5 _ _ nlp hlb4), fun sl hsl => ?_⟩⟩
    obtain ⟨n5, hn5⟩ : ∃ n : Nat, i5 = (n : Int) := ⟨i5.toNat, by omega⟩
    subst hn5
    have ecut : cutV (labs.map V.str) (some 4) (some (4 + (n5 : Int))) = ((labs.drop 4).take n5).map V.str := by
      have := cutV_mid (labs.map V.str) 4 n5
      rw [List.map_take, List.map_drop]
      exact this
    rw [ecut]
    have n8 : n5 ≤ 8 := by omega
    have s6 := same_put (Same.refl H5) hsl (o := .lst (((labs.drop 4).take n5).map V.str))
    refine ⟨sl, rfl, ⟨_, SqL.of upd_same⟩, fun D hD => ?_⟩
    have x06 := (x04.trans x5).trans (Ex.of (p := p) s6)
    have p6 := p5.same s6
    have e6 := s6 _ _ (x5 _ _ nep e4)
    have sl6 : (upd H5 sl (.lst (((labs.drop 4).take n5).map V.str))) sl = some (.lst (((labs.drop 4).take n5).map V.str)) := upd_same
    have lb6 := s6 _ _ (x5 _ _ nlp hlb4)
    generalize upd H5 sl (.lst (((labs.drop 4).take n5).map V.str)) = H6 at x06 p6 e6 sl6 lb6 hD
    have nsp : sl ≠ p := p6.ne sl6 (by intro q z; cases z)
    have D0 : H D = none := x06.free p6 hD
    have nDp := p6.nn hD
    have nDc := p6.nc hD
    have neD : e ≠ D := ne_of_none e6 hD
    have nsD : sl ≠ D := ne_of_none sl6 hD
    have nlD : lb ≠ D := ne_of_none lb6 hD
    refine lc_it (walk_list (K := K) (a := sl) (xs := ((labs.drop 4).take n5).map V.str)) (fun i H' => Ex p H H' ∧ PenAt H' p cl (c + 210 + 20 * i) ∧ H' e = some (.lst (es.map V.str)) ∧ H' lb = some (.lst (labs.map V.str)) ∧ H' sl = some (.lst (((labs.drop 4).take n5).map V.str)) ∧ ∃ rs : List Po, rs.length = i ∧ H' D = some (.lst (refs rs)) ∧ RawsAt H' rs ∧ (∀ r ∈ rs, RawOk es r.2) ∧ rs.map (fun r => r.2.name) = ((labs.drop 4).take n5).take i)
      ⟨x06.put (.inr D0), (p6.new hD).mono (by omega), by rw [upd_ne neD]; exact e6, by rw [upd_ne nlD]; exact lb6, by rw [upd_ne nsD]; exact sl6, [], rfl, upd_same, fun r hr => absurd hr List.not_mem_nil, fun r hr => absurd hr List.not_mem_nil, rfl⟩ (fun _ _ _ h => SqL.of h.2.2.2.2.1) ?_ ?_
    · rintro i y H7 H8 hi ⟨x7, p7, e7, lb7, sl7, rs, hrl, hD7, hra, hrok, hrn⟩ ⟨e8, hy⟩
      subst e8
      have hy : (((labs.drop 4).take n5).map V.str)[i]? = some y := hy
      rw [List.getElem?_map] at hy
      cases hz : ((labs.drop 4).take n5)[i]? with
      | none => rw [hz] at hy; cases hy
      | some z =>
      rw [hz] at hy
      obtain rfl : V.str z = y := Option.some.inj hy
      have hi8 : i < 8 := by
        rw [List.length_map, List.length_take] at hi
        omega
      refine ⟨rfl, yes_if ⟨_, rfl, _, rfl, _, rfl, _, rfl, p, cl, e, z, es, c + 210 + 20 * i, rfl, p7, e7, es0, es4, by omega, fun H9 t o x9 p9 ht on ok9 => ?_⟩⟩
      have hD9 := x9 _ _ nDp hD7
      refine ⟨_, hD9, ?_, (x7.trans x9).put (.inr D0), by rw [show c + 210 + 20 * (i + 1) = c + 210 + 20 * i + 20 by omega]; exact p9.put nDp nDc, by rw [upd_ne neD]; exact x9 _ _ nep e7, by rw [upd_ne nlD]; exact x9 _ _ nlp lb7, by rw [upd_ne nsD]; exact x9 _ _ nsp sl7, rs ++ [(t, o)], by rw [List.length_append, hrl]; rfl, ?_, ?_, ?_, ?_⟩
      · rw [List.length_map, hrl]
        exact Nat.lt_of_lt_of_le hi8 (by decide)
      · rw [upd_same]
        show some (HO.lst (refs rs ++ _)) = some (HO.lst ((rs ++ [_]).map _))
        rw [List.map_append]
        rfl
      · intro r hr2
        rcases List.mem_append.mp hr2 with h | h
        · have := hra.ex x9 p7 r h
          rw [upd_ne (ne_of this hD9 (by intro q; cases q))]
          exact this
        · rw [List.mem_singleton.mp h, upd_ne (ne_of ht hD9 (by intro q; cases q))]
          exact ht
      · intro r hr2
        rcases List.mem_append.mp hr2 with h | h
        · exact hrok r h
        · rw [List.mem_singleton.mp h]; exact ok9
      · rw [List.map_append, hrn, List.take_succ, hz, ← on]
        rfl
    · rintro H7 ⟨x7, p7, e7, lb7, sl7, rs, hrl, hD7, hra, hrok, hrn⟩
      rw [List.length_map] at hrl p7 hrn
      have hl8 : ((labs.drop 4).take n5).length ≤ 8 := by rw [List.length_take]; omega
      rw [List.take_length] at hrn
      have p7' : PenAt H7 p cl (c + 400) := p7.mono (by omega)
      -- the list of raw offices, with or without a ring
      refine ⟨fun σ' H' => ∃ (b : Addr) (rs : List Po), σ' = [some (.ref p), some (.int 8), some (.int 9), some (.ref e), some (.ref lb), some (.ref b), none] ∧ Ex p H H' ∧ PenAt H' p cl (c + 500) ∧ H' e = some (.lst (es.map V.str)) ∧ H' b = some (.lst (refs rs)) ∧ RawsAt H' rs ∧ (∀ r ∈ rs, RawOk es r.2) ∧ (∀ r ∈ rs, NameOk r.2.name) ∧ (rs.map fun r => r.2.name).Nodup ∧ rs.length ≤ 12, ?_, ?_⟩
      · have n1 : ∀ r ∈ rs, NameOk r.2.name := fun r hr2 => by
          have : r.2.name ∈ rs.map fun r => r.2.name := List.mem_map.mpr ⟨r, hr2, rfl⟩
          rw [hrn] at this
          exact okl _ (List.mem_of_mem_drop (List.mem_of_mem_take this))
        have n2 : (rs.map fun r => r.2.name).Nodup := by
          rw [hrn]
          exact (ndl.sublist (List.drop_sublist _ _)).sublist (List.take_sublist _ _)
        refine ⟨_, rfl, p, cl, 2, c + 400, rfl, p7', by omega, by omega, by omega, fun H8 i8 a8 b8 x8 p8 => ⟨rfl, _, rfl, ?_⟩⟩
        have e8 := x8 _ _ nep e7
        have lb8 := x8 _ _ nlp lb7
        have D8 := x8 _ _ nDp hD7
        have ra8 := hra.ex x8 p7'
        have x08 := x7.trans x8
        refine ite2 (fun _ => ?_) (fun _ => ?_)
        · refine ⟨_, rfl, _, rfl, _, rfl, _, rfl, _, rfl, p, cl, e, _, c + 401, rfl, p8, e8, by rw [List.length_map]; omega, by rw [List.length_map]; omega, fun H9 q9 ys x9 p9 hq9 hq9' hperm => ?_⟩
          obtain ⟨es', rfl, pes⟩ := perm_map_inv hperm es rfl
          rw [List.length_map] at p9
          have es'0 : es' ≠ [] := fun z => by rw [z] at pes; exact es0 (List.perm_nil.mp pes.symm)
          have lb9 := x9 _ _ nlp lb8
          have D9 := x9 _ _ nDp D8
          have ra9 := ra8.ex x9 p8
          refine ⟨p, cl, lb, q9, labs, es', c + 410, rfl, p9.mono (by omega), lb9, hq9', es'0, by rw [pes.length_eq]; exact es4, by omega, by omega, by omega, fun HA qa rs2 xA pA hqa hqa' hra2 hrok2 hrn2 => ?_⟩
          have DA := xA _ _ nDp D9
          have raA := ra9.ex xA (p9.mono (by omega : c + 401 + es.length ≤ c + 410))
          have l2 : rs2.length ≤ 4 := by
            have := congrArg List.length hrn2
            rw [List.length_map, List.length_take, pes.length_eq] at this
            omega
          refine ⟨_, _, _, _, rfl, rfl, DA, hqa', by rw [List.length_map, List.length_map]; exact Nat.le_trans (by omega : rs.length + rs2.length ≤ 12) (by decide), fun b hb => ?_⟩
          have x0A := (x08.trans x9).trans xA
          refine ⟨b, rs ++ rs2, rfl, x0A.put (.inr (x0A.free pA hb)), (pA.new hb).mono (by omega), ?_, ?_, ?_, ?_, ?_, ?_, by rw [List.length_append]; omega⟩
          · have eA := xA _ _ nep (x9 _ _ nep e8)
            rw [upd_ne (ne_of_none eA hb)]
            exact eA
          · rw [upd_same]
            show some (HO.lst (refs rs ++ refs rs2)) = some (HO.lst ((rs ++ rs2).map _))
            rw [List.map_append]
          · intro r hr2
            have : HA r.1 = some (.tup (rawOf r.2)) := by
              rcases List.mem_append.mp hr2 with h | h
              · exact raA r h
              · exact hra2 r h
            rw [upd_ne (ne_of_none this hb)]
            exact this
          · intro r hr2
            rcases List.mem_append.mp hr2 with h | h
            · exact hrok r h
            · exact (hrok2 r h).perm fun z hz => pes.mem_iff.mp hz
          · intro r hr2
            rcases List.mem_append.mp hr2 with h | h
            · exact n1 r h
            · have : r.2.name ∈ rs2.map fun r => r.2.name := List.mem_map.mpr ⟨r, h, rfl⟩
              rw [hrn2] at this
              exact okl _ (List.mem_of_mem_take this)
          · rw [List.map_append, hrn, hrn2]
            have split : labs.take 4 ++ labs.drop 4 = labs := List.take_append_drop 4 labs
            have nds : (labs.take 4 ++ labs.drop 4).Nodup := by rw [split]; exact ndl
            rw [List.nodup_append] at nds ⊢
            refine ⟨(nds.2.1).sublist (List.take_sublist _ _), (ndl.sublist (List.take_sublist _ _)), fun a ha b hb2 hab => ?_⟩
            have hb3 : b ∈ labs.take 4 := by
              have : labs.take es'.length = (labs.take 4).take es'.length := by rw [List.take_take, Nat.min_eq_left (by rw [pes.length_eq]; exact es4)]
              rw [this] at hb2
              exact List.mem_of_mem_take hb2
            exact nds.2.2 b hb3 a (List.mem_of_mem_take ha) hab.symm
        · exact ⟨D, rs, rfl, x08, p8.mono (by omega), e8, D8, ra8, hrok, n1, n2, by omega⟩
      · rintro σ' H8 ⟨b, rs, rfl, x8, p8, e8, b8, ra8, ok8, n8', nd8, l8⟩
        intro d hd
        have d0 : H d = none := x8.free p8 hd
        have ndp := p8.nn hd
        have ndc := p8.nc hd
        have s9 := same_put (Same.refl H8) hd (o := .dK [])
        refine ⟨_, rfl, e, es, rfl, SqL.of (s9 _ _ e8), by omega, fun es' qe pes _ hqe => ?_⟩
        have sA := same_put (Same.refl _) hqe (o := .lst (es'.map V.str))
        have s8A := s9.trans sA
        have nqd : qe ≠ d := fun z => by rw [z, upd_same] at hqe; cases hqe
        have nqp : qe ≠ p := (p8.same s9).nn hqe
        refine ⟨_, rfl, _, rfl, p, cl, b, refs rs, c + 500, rfl, p8.same s8A, s8A _ _ b8, by rw [List.length_map]; omega, by rw [List.length_map]; omega, fun HB qb ys xB pB hqb hqb' hperm => ?_⟩
        obtain ⟨rs', rfl, prs⟩ := perm_map_inv hperm rs rfl
        rw [List.length_map] at pB
        have dB : HB d = some (.dK []) := xB _ _ ndp (by rw [upd_ne nqd.symm, upd_same])
        refine ⟨dB, rawD qe qb, rfl, (by show 2 ≤ 15; decide), ?_⟩
        rw [raw_merge]
        have x0B := (x8.trans (Ex.of (p := p) s8A)).trans xB
        have raB : RawsAt HB rs := (ra8.same s8A).ex xB (p8.same s8A)
        refine k _ d qe qb es' rs' (x0B.put (.inr d0)) ((pB.put ndp ndc).mono (by omega)) d0 ⟨upd_same, ?_, ?_, ?_, ?_, ?_, ?_, ?_, ?_, ?_, ?_, ?_⟩
        · have : HB qe = some (.lst (es'.map V.str)) := xB _ _ nqp upd_same
          rw [upd_ne nqd]; exact this
        · rw [upd_ne (ne_of hqb' dB (by intro q; cases q))]; exact hqb'
        · exact fun z => by rw [z] at pes; exact es0 (List.perm_nil.mp pes.symm)
        · rw [pes.length_eq]; exact es4
        · exact fun z hz => esN z (pes.mem_iff.mp hz)
        · exact pes.nodup_iff.mpr esD
        · intro r hr2
          have := raB r (prs.mem_iff.mp hr2)
          rw [upd_ne (ne_of this dB (by intro q; cases q))]
          exact this
        · exact fun r hr2 => (ok8 r (prs.mem_iff.mp hr2)).perm fun z hz => pes.mem_iff.mpr hz
        · exact fun r hr2 => n8' r (prs.mem_iff.mp hr2)
        · exact (prs.map _).nodup_iff.mpr nd8
        · rw [prs.length_eq]; exact l8
end
end Rd
end T_W16
section T_W17
set_option Elab.async false
set_option linter.all false
set_option maxRecDepth 100000
set_option maxHeartbeats 4000000
/-! The mathematics of levels. -/
namespace Rd
open PySem PySem.Spec PyProof.Rows L2
theorem base_mono {o : Off} (on : OffN o) {a b x : Int} (h : a ≤ b) (e : o.base a = some x) : ∃ y, o.base b = some y ∧ x ≤ y := by
  unfold Off.base at e ⊢
  by_cases ha : a < o.least
  · rw [if_pos ha] at e; cases e
  · rw [if_neg ha] at e
    rw [if_neg (by omega)]
    refine ⟨_, rfl, ?_⟩
    have e := Option.some.inj e
    have h1 : a * o.p / o.q ≤ b * o.p / o.q := Int.ediv_le_ediv (by have := on.q1; omega) (Int.mul_le_mul_of_nonneg_right h (by have := on.p1; omega))
    rw [← e]
    split <;> split <;> omega
theorem cut_mono {o : Off} {a b : Int} (h : a ≤ b) : o.cut a ≤ o.cut b := by
  unfold Off.cut
  cases o.cap with
  | none => exact h
  | some m => show (if m < a then m else a) ≤ (if m < b then m else b); split <;> split <;> omega
theorem res_mono {o : Off} (on : OffN o) {a b x : Int} (h : a ≤ b) (e : o.res a = some x) : ∃ y, o.res b = some y ∧ x ≤ y := base_mono on (cut_mono h) e
theorem cut_le {o : Off} (a : Int) : o.cut a ≤ a := by
  unfold Off.cut
  cases o.cap with
  | none => exact Int.le_refl _
  | some m => show (if m < a then m else a) ≤ a; split <;> omega
theorem res_pos {o : Off} (on : OffN o) {a x : Int} (e : o.res a = some x) : 0 ≤ x ∧ 0 ≤ a ∧ x ≤ a * 9 := by
  unfold Off.res Off.base at e
  by_cases ha : o.cut a < o.least
  · rw [if_pos ha] at e; cases e
  · rw [if_neg ha] at e
    have e := Option.some.inj e
    have hc := cut_le (o := o) a
    have l0 := on.l0
    have hn : 0 ≤ o.cut a := by omega
    have hp : o.cut a * o.p ≤ a * 9 := Int.le_trans (Int.mul_le_mul_of_nonneg_right hc (by have := on.p1; omega)) (Int.mul_le_mul_of_nonneg_left on.p9 (by omega))
    have hd : o.cut a * o.p / o.q ≤ o.cut a * o.p := Int.ediv_le_self _ (Int.mul_nonneg hn (by have := on.p1; omega))
    have f0 := on.f0
    rw [← e]
    split <;> omega
section
variable {os : List Off} {L M : Lev}
abbrev Ns (os : List Off) : Prop := ∀ o ∈ os, OffN o
abbrev Lo (L : Lev) : Prop := ∀ c, -1 ≤ L c
abbrev Le (L M : Lev) : Prop := ∀ c, L c ≤ M c
theorem stepO_at (F : Lev) (o : Off) (c : Str) : stepO L F o c = F c ∨ (o.goal = c ∧ o.res (L o.src) = some (stepO L F o c) ∧ F c < stepO L F o c) := by
  cases hr : o.res (L o.src) with
  | none =>
    have e : stepO L F o = F := by unfold stepO; rw [hr]
    rw [e]
    exact .inl rfl
  | some x =>
    have e : stepO L F o = if x > F o.goal then put F o.goal x else F := by unfold stepO; rw [hr]
    rw [e]
    by_cases hx : x > F o.goal
    · rw [if_pos hx]
      by_cases hc : c = o.goal
      · have e2 : put F o.goal x c = x := by unfold put; rw [if_pos hc]
        rw [e2, hc]
        exact .inr ⟨rfl, rfl, hx⟩
      · have e2 : put F o.goal x c = F c := by unfold put; rw [if_neg hc]
        exact .inl e2
    · rw [if_neg hx]
      exact .inl rfl
theorem stepO_ge (F : Lev) (o : Off) : Le F (stepO L F o) := fun c => by
  rcases stepO_at (L := L) F o c with h | ⟨_, _, h⟩ <;> omega
theorem fold_ge : ∀ (os : List Off) (F : Lev), Le F (os.foldl (stepO L) F)
  | [], F => fun c => Int.le_refl _
  | o :: os, F => fun c => Int.le_trans (stepO_ge F o c) (fold_ge os (stepO L F o) c)
theorem fold_off : ∀ (os : List Off) (F : Lev) (o : Off), o ∈ os → ∀ x, o.res (L o.src) = some x → x ≤ os.foldl (stepO L) F o.goal
  | o' :: os, F, o, ho, x, hx => by
    rcases List.mem_cons.mp ho with h | h
    · subst h
      refine Int.le_trans ?_ (fold_ge os (stepO L F o) o.goal)
      unfold stepO
      rw [hx]
      show x ≤ (if x > F o.goal then put F o.goal x else F) o.goal
      split
      · unfold put
        rw [if_pos rfl]
        exact Int.le_refl _
      · omega
    · exact fold_off os (stepO L F o') o h x hx
theorem fold_case : ∀ (os : List Off) (F : Lev) (c : Str), os.foldl (stepO L) F c = F c ∨ ∃ o ∈ os, o.goal = c ∧ o.res (L o.src) = some (os.foldl (stepO L) F c)
  | [], F, c => .inl rfl
  | o :: os, F, c => by
    rcases fold_case os (stepO L F o) c with h | ⟨o', h1, h2, h3⟩
    · have e : (o :: os).foldl (stepO L) F c = stepO L F o c := h
      rw [e]
      rcases stepO_at (L := L) F o c with h2 | ⟨h2, h3, _⟩
      · exact .inl h2
      · exact .inr ⟨o, List.mem_cons_self, h2, h3⟩
    · exact .inr ⟨o', List.mem_cons_of_mem _ h1, h2, h3⟩
theorem step_ge (os : List Off) (L : Lev) : Le L (stepL os L) := fold_ge os L
theorem step_mono (hn : Ns os) (h : Le L M) : Le (stepL os L) (stepL os M) := fun c => by
  rcases fold_case (L := L) os L c with e | ⟨o, ho, hg, hr⟩
  · have e : stepL os L c = L c := e
    rw [e]
    exact Int.le_trans (h c) (step_ge os M c)
  · obtain ⟨y, hy, hxy⟩ := res_mono (hn o ho) (h o.src) hr
    have := fold_off (L := M) os M o ho y hy
    rw [hg] at this
    exact Int.le_trans hxy this
theorem lev_mono (hn : Ns os) (h : Le L M) : ∀ n, Le (lev os L n) (lev os M n)
  | 0 => h
  | n + 1 => step_mono hn (lev_mono hn h n)
theorem lev_succ (os : List Off) (L : Lev) (n : Nat) : Le (lev os L n) (lev os L (n + 1)) := step_ge os _
theorem lev_ge (os : List Off) (L : Lev) : ∀ n, Le L (lev os L n)
  | 0 => fun _ => Int.le_refl _
  | n + 1 => fun c => Int.le_trans (lev_ge os L n c) (lev_succ os L n c)
theorem lev_add (os : List Off) (L : Lev) (i : Nat) : ∀ j, lev os L (i + j) = lev os (lev os L i) j
  | 0 => rfl
  | j + 1 => by
    show stepL os (lev os L (i + j)) = stepL os (lev os (lev os L i) j)
    rw [lev_add os L i j]
/-- nothing is had but of cs -/
theorem lev_out {cs : List Str} (hg : ∀ o ∈ os, o.goal ∈ cs) {c : Str} (hc : c ∉ cs) : ∀ n, lev os L n c = L c
  | 0 => rfl
  | n + 1 => by
    rcases fold_case (L := lev os L n) os (lev os L n) c with e | ⟨o, ho, hgo, _⟩
    · exact Eq.trans e (lev_out hg hc n)
    · exact absurd (hgo ▸ hg o ho) hc
/-- two in a row are the same: all later ones are -/
theorem lev_still {cs : List Str} (hg : ∀ o ∈ os, o.goal ∈ cs) {k : Nat} (h : ∀ c ∈ cs, lev os L k c = lev os L (k + 1) c) : ∀ j, lev os L (k + j) = lev os L k := by
  have e : lev os L (k + 1) = lev os L k := funext fun c => by
    by_cases hc : c ∈ cs
    · exact (h c hc).symm
    · rw [lev_out hg hc, lev_out hg hc]
  intro j
  induction j with
  | zero => rfl
  | succ j ih =>
    show stepL os (lev os L (k + j)) = _
    rw [ih]
    exact e
theorem start_le {A : Lev} (lo : Lo A) (e : Str) : Le (start1 e (A e)) A := fun c => by
  unfold start1 put
  split
  · rename_i h; rw [h]; exact Int.le_refl _
  · exact lo c
/-- what is had comes of one of the parts -/
theorem lev_part {cs : List Str} (hn : Ns os) {A : Lev} (lo : Lo A) (out : ∀ c, c ∉ cs → A c = -1) : ∀ (n : Nat) (c : Str), lev os A n c = -1 ∨ ∃ e ∈ cs, 0 ≤ A e ∧ lev os A n c ≤ lev os (start1 e (A e)) n c
  | 0, c => by
    by_cases h : 0 ≤ A c
    · refine .inr ⟨c, Decidable.byContradiction fun hc => by rw [out c hc] at h; exact absurd h (by decide), h, ?_⟩
      show A c ≤ start1 c (A c) c
      unfold start1 put
      rw [if_pos rfl]
      exact Int.le_refl _
    · have := lo c
      exact .inl (by show A c = -1; omega)
  | n + 1, c => by
    rcases fold_case (L := lev os A n) os (lev os A n) c with e | ⟨o, ho, hgo, hr⟩
    · have e : lev os A (n + 1) c = lev os A n c := e
      rw [e]
      rcases lev_part hn lo out n c with h | ⟨z, h1, h2, h3⟩
      · exact .inl h
      · exact .inr ⟨z, h1, h2, Int.le_trans h3 (lev_succ os _ n c)⟩
    · have hr : o.res (lev os A n o.src) = some (lev os A (n + 1) c) := hr
      rcases lev_part hn lo out n o.src with h | ⟨z, h1, h2, h3⟩
      · have := (res_pos (hn o ho) hr).2.1
        rw [h] at this
        exact absurd this (by decide)
      · obtain ⟨y, hy, hxy⟩ := res_mono (hn o ho) h3 hr
        have := fold_off (L := lev os (start1 z (A z)) n) os (lev os (start1 z (A z)) n) o ho y hy
        rw [hgo] at this
        exact .inr ⟨z, h1, h2, Int.le_trans hxy this⟩
/-- amounts grow ninefold at most -/
theorem lev_bound (hn : Ns os) {B : Int} (h0 : 0 ≤ B) (h : ∀ c, L c ≤ B) : ∀ (n : Nat) (c : Str), lev os L n c ≤ B * 9 ^ n
  | 0, c => by
    show L c ≤ B * 9 ^ 0
    rw [Int.pow_zero, Int.mul_one]
    exact h c
  | n + 1, c => by
    have ih := lev_bound hn h0 h n
    have e9 : B * 9 ^ (n + 1) = B * 9 ^ n * 9 := by rw [Int.pow_succ, Int.mul_assoc]
    have pos : 0 ≤ B * 9 ^ n := Int.mul_nonneg h0 (Int.le_of_lt (Int.pow_pos (by decide)))
    rw [e9]
    rcases fold_case (L := lev os L n) os (lev os L n) c with e | ⟨o, ho, hgo, hr⟩
    · have e : lev os L (n + 1) c = lev os L n c := e
      rw [e]
      have := ih c
      omega
    · have hr : o.res (lev os L n o.src) = some (lev os L (n + 1) c) := hr
      have h1 := (res_pos (hn o ho) hr).2.2
      have := ih o.src
      omega
theorem start_lo (z : Str) {v : Int} (h : 0 ≤ v) : Lo (start1 z v) := fun c => by
  show -1 ≤ (if c = z then v else -1)
  split <;> omega
theorem start_at (z : Str) (v : Int) : start1 z v z = v := by
  unfold start1 put
  rw [if_pos rfl]
theorem start_out {z c : Str} (v : Int) (h : c ≠ z) : start1 z v c = -1 := by
  unfold start1 put
  rw [if_neg h]
theorem start_mono (z : Str) {v u : Int} (h : v ≤ u) : Le (start1 z v) (start1 z u) := fun c => by
  unfold start1 put
  split
  · exact h
  · exact Int.le_refl _
theorem start_bound (z : Str) {v B : Int} (h0 : 0 ≤ B) (h : v ≤ B) (c : Str) : start1 z v c ≤ B := by
  show (if c = z then v else -1) ≤ B
  split <;> omega
end
end Rd
end T_W17
section T_W18
set_option Elab.async false
set_option linter.all false
set_option maxRecDepth 100000
set_option maxHeartbeats 8000000
/-! The law. -/
namespace Rd
open PySem PySem.Spec PyProof.Rows L2
structure Tn (cO cC cM : Addr) (H : Hp) (d e m t fd : Addr) (es cs : List Str) (ps : List Po) (z : Str) (amt : Int) (ds : List Addr) : Prop where
  re : ∃ b, H d = some (.dK (rawD e b))
  le : H e = some (.lst (es.map V.str))
  mkt : MktAt cO cC cM H m cs ps
  ho : H t = some (.tup [.str z, .int amt])
  fo : H fd = some (.lst (ds.map V.ref))
  lv : LevsAt H cs (offs ps) (start1 z amt) ds
theorem Tn.same {cO cC cM : Addr} {H H' : Hp} {d e m t fd : Addr} {es cs : List Str} {ps : List Po} {z : Str} {amt : Int} {ds : List Addr} (x : Tn cO cC cM H d e m t fd es cs ps z amt ds) (s : Same H H') : Tn cO cC cM H' d e m t fd es cs ps z amt ds :=
  ⟨let ⟨b, h⟩ := x.re; ⟨b, s _ _ h⟩, s _ _ x.le, x.mkt.same s, s _ _ x.ho, s _ _ x.fo, fun i d h => s _ _ (x.lv i d h)⟩
theorem lget {H : Hp} {d : Addr} {cs : List Str} {L : Lev} {e : Str} (h : H d = some (.dK (kvOf cs L))) (he : e ∈ cs) : DGet H d (.str e) (some (.int (L e))) := kvOf_val (L := L) he ▸ DGet.k (k := (Sum.inr e : Key)) h
theorem pow_le : ∀ k, k < 9 → (10000000 : Int) * 9 ^ k ≤ 10 ^ 30 := by decide +kernel
theorem at_ref {ds : List Addr} {i : Nat} {d : Addr} (h : ds[i]? = some d) : atI (ds.map V.ref) (i : Int) = some (.ref d) := atI_nat (by rw [List.getElem?_map, h]; rfl)
theorem RawAt.ex {H H' : Hp} {p cl d e b : Addr} {es : List Str} {rs : List Po} {n : Nat} (R : RawAt H d e b es rs) (x : Ex p H H') (pn : PenAt H p cl n) (hdp : d ≠ p) : RawAt H' d e b es rs :=
  ⟨x _ _ hdp R.d, x _ _ (pn.ne R.e (by intro q z; cases z)) R.e, x _ _ (pn.ne R.b (by intro q z; cases z)) R.b, R.ne, R.l4, R.en, R.nd, R.raws.ex x pn, R.ok, R.nm, R.rn, R.l12⟩
theorem RawAt.same {H H' : Hp} {d e b : Addr} {es : List Str} {rs : List Po} (R : RawAt H d e b es rs) (x : Same H H') : RawAt H' d e b es rs :=
  ⟨x _ _ R.d, x _ _ R.e, x _ _ R.b, R.ne, R.l4, R.en, R.nd, R.raws.same x, R.ok, R.nm, R.rn, R.l12⟩
theorem MktAt.ex {cO cC cM : Addr} {H H' : Hp} {p cl m : Addr} {cs : List Str} {ps : List Po} {n : Nat} (M : MktAt cO cC cM H m cs ps) (x : Ex p H H') (pn : PenAt H p cl n) : MktAt cO cC cM H' m cs ps := by
  obtain ⟨dx, fs, ct, ot, h1, h2, h3, h4, h5, h6⟩ := M
  refine ⟨dx, fs, ct, ot, x _ _ (pn.ne h1 (by intro q z; cases z)) h1, h2, h3, x _ _ (pn.ne h4 (by intro q z; cases z)) h4, x _ _ (pn.ne h5 (by intro q z; cases z)) h5, fun q hq => ?_⟩
  obtain ⟨dx2, e, r, g1, g2, g3⟩ := h6 q hq
  exact ⟨dx2, e, r, x _ _ (pn.ne g1 (by intro q z; cases z)) g1, x _ _ (pn.ne g2 (by intro q z; cases z)) g2, x _ _ (pn.ne g3 (by intro q z; cases z)) g3⟩
theorem Tn.ex {cO cC cM : Addr} {H H' : Hp} {p cl d e m t fd : Addr} {es cs : List Str} {ps : List Po} {z : Str} {amt : Int} {ds : List Addr} {n : Nat} (x : Tn cO cC cM H d e m t fd es cs ps z amt ds) (s : Ex p H H') (pn : PenAt H p cl n) (hd : d ≠ p) (hds : ∀ d ∈ ds, d ≠ p) : Tn cO cC cM H' d e m t fd es cs ps z amt ds :=
  ⟨let ⟨b, h⟩ := x.re; ⟨b, s _ _ hd h⟩, s _ _ (pn.ne x.le (by intro q z; cases z)) x.le, x.mkt.ex s pn, s _ _ (pn.ne x.ho (by intro q z; cases z)) x.ho, s _ _ (pn.ne x.fo (by intro q z; cases z)) x.fo, fun i d h => s _ _ (hds d (List.mem_of_getElem? h)) (x.lv i d h)⟩
theorem at_ref0 {ds : List Addr} {i : Nat} {d : Addr} (h : ds[i]? = some d) : atI (ds.map V.ref) (0 + (i : Int)) = some (.ref d) := by rw [Int.zero_add]; exact at_ref h
theorem at_ref1 {ds : List Addr} {i : Nat} {d : Addr} (h : ds[i + 1]? = some d) : atI (ds.map V.ref) (0 + (i : Int) + 1) = some (.ref d) := by
  rw [Int.zero_add]
  exact at_ref h
theorem at_ref2 {ds : List Addr} {i j : Nat} {d : Addr} (h : ds[i + j]? = some d) : atI (ds.map V.ref) ((i : Int) + (j : Int)) = some (.ref d) := at_ref h
def spLaw (K : PySem.W.Frag) : Sp := fun vs H Q _ => ∃ (a : Addr) (ns : List Int), vs = [.ref a] ∧ SqL K H a (ns.map V.int) ∧ ns.length ≤ 63 ∧ ∀ H', Q (.bl true) H'
section
variable {P : Program} {w : World} {K : PySem.W.Frag} {mg : Str → Option Value} {base : Heap} {cO cC cM f : Addr} {fd : FuncData}
abbrev s_law : Stmt := top 61
abbrev Nlaw : List Str := ["_law_script", "_law_pen_here", "_law_turn", "_law_raw_here", "_law_amount", "_law_market", "_law_holding", "_law_one_here", "_law_two", "_law_found", "_law_here", "_law_end", "_law_parts", "_law_k", "_law_still", "_law_more", "_law_level", "_law_part"]
theorem sclaw : FnScope Nlaw ["_law_script"] (defScope s_law) := ⟨rfl, rfl, rfl, by decide +kernel, rfl, by decide +kernel, by decide +kernel⟩
theorem ok_law (F : FD K "law" s_law f fd) (T : Tx K mg cO cC cM) (c__law_pen : C8.Cal P w K mg base 1 "_law_pen" (spPen K) []) (c__law_draw : C8.Cal P w K mg base 1 "_law_draw" spDraw []) (c__law_pick : C8.Cal P w K mg base 2 "_law_pick" spPick [])
    (c__law_raw : C8.Cal P w K mg base 4 "_law_raw" spRaw []) (c__law_made : C8.Cal P w K mg base 7 "_law_made" (spMade cO cC cM) []) (c__law_at : C8.Cal P w K mg base 7 "_law_at" (spAt cO cC cM) []) : FnOk P w K mg base CX0 8 f fd ["_law_script"] (spLaw K) := by
  refine ok0 F sclaw (fun vs H Q E h => ?_) (fun cdv A outer s H vs Q E hr h => ?_)
  · obtain ⟨a, ns, rfl, _⟩ := h
    rfl
  · obtain ⟨a, ns, rfl, hS, hlen, kQ⟩ := h
    have hu := hu_of hr
    refine ⟨_, (pss_cons (ps_set (i := 1) sclaw.nd rfl (Or.inl rfl) (C8.pe_c c__law_pen hr (by decide) (by rfl) (pa_cons (pv 0) pa_nil)))
    (pss_cons (ps_for PassesOwn.never rfl (pi_range1 (by rfl) T.b_range (pa_cons (pe_op op_add pe_int (pe_callB (call_min2 rfl) (by rfl) T.b_min bt_min (pa_cons pe_int (pa_cons (pe_callB call_len_seq (by rfl) T.b_len bt_len (pa_cons (pv 0) pa_nil)) pa_nil)))) pa_nil)) (pg_name (i := 2) sclaw.nd rfl (Or.inl rfl)) (pss_cons (ps_set (i := 3) sclaw.nd rfl (Or.inl rfl) (C8.pe_c c__law_raw hr (by decide) (by rfl) (pa_cons (pv 1) (pa_cons pe_int (pa_cons pe_int pa_nil)))))
      (pss_cons (ps_set (i := 4) sclaw.nd rfl (Or.inl rfl) (C8.pe_c c__law_pick hr (by decide) (by rfl) (pa_cons (pv 1) (pa_cons (pe_lst (pa_cons (C8.pe_c c__law_draw hr (by decide) (by rfl) (pa_cons (pv 1) (pa_cons pe_int pa_nil))) (pa_cons (C8.pe_c c__law_draw hr (by decide) (by rfl) (pa_cons (pv 1) (pa_cons pe_int pa_nil))) (pa_cons pe_int (pa_cons (C8.pe_c c__law_draw hr (by decide) (by rfl) (pa_cons (pv 1) (pa_cons (pe_op op_pow pe_int pe_int) pa_nil))) pa_nil))))) pa_nil))))
      (pss_cons (ps_asg (pe_tup (pa_cons (C8.pe_c c__law_made hr (by decide) (by rfl) (pa_cons (pv 3) pa_nil)) (pa_cons (pe_tup (pa_cons (C8.pe_c c__law_pick hr (by decide) (by rfl) (pa_cons (pv 1) (pa_cons (pe_dget hu (pv 3) pe_str (fun _ _ => rfl)) pa_nil))) (pa_cons (pv 4) pa_nil))) pa_nil))) (pg_tup rfl (pgs_cons (pg_name (i := 5) sclaw.nd rfl (Or.inr rfl)) (pgs_cons (pg_name (i := 6) sclaw.nd rfl (Or.inl rfl)) pgs_nil))))
      (pss_cons (ps_asg (pe_tup (pa_cons (C8.pe_c c__law_draw hr (by decide) (by rfl) (pa_cons (pv 1) (pa_cons pe_int pa_nil))) (pa_cons (C8.pe_c c__law_draw hr (by decide) (by rfl) (pa_cons (pv 1) (pa_cons pe_int pa_nil))) pa_nil))) (pg_tup rfl (pgs_cons (pg_name (i := 7) sclaw.nd rfl (Or.inr rfl)) (pgs_cons (pg_name (i := 8) sclaw.nd rfl (Or.inr rfl)) pgs_nil))))
      (pss_cons (ps_set (i := 9) sclaw.nd rfl (Or.inr rfl) (C8.pe_c c__law_at hr (by decide) (by rfl) (pa_cons (pv 5) (pa_cons (pv 6) (pa_cons (pe_op op_add (pv 7) (pv 8)) pa_nil)))))
      (C8.pss_cut (ps_set (i := 10) sclaw.nd rfl (Or.inr rfl) (pe_ix ix_list (pv 9) (pv 7) (fun _ _ => rfl)))
      (C8.pss_cut (ps_setLc (i := 12) (own := [("_law_end", 11)]) (g := gName 11) rfl sclaw.nd rfl rfl (sw_true rfl rfl rfl (by decide +kernel)) (pi_list (pe_dget hu (pv 3) pe_str (fun _ _ => rfl))) (blkOk_by (own := [("_law_end", 11)]) (N := Nlaw) (sc := defScope s_law) (by decide +kernel)) (fun _ _ _ _ _ => (pg_name (i := 11) sclaw.nd rfl (Or.inl rfl))) (fun _ _ _ _ _ => (pts_one (pt_cmpR op_ge (pe_dget hu (pv 10) (pv 11) (fun _ _ => rfl)) pe_int (nomark _)))) (fun _ _ _ _ _ => (pe_ix (ix_listK (K := K) rfl) (C8.pe_c c__law_at hr (by decide) (by rfl) (pa_cons (pv 5) (pa_cons (pe_tup (pa_cons (pv 11) (pa_cons (pe_dget hu (pv 10) (pv 11) (fun _ _ => rfl)) pa_nil))) (pa_cons (pv 8) pa_nil)))) (pv 8) (fun _ _ => rfl))))
      (C8.pss_cut (ps_for PassesOwn.never rfl (pi_list (pe_dget hu (pv 3) pe_str (fun _ _ => rfl))) (pg_name (i := 11) sclaw.nd rfl (Or.inr rfl)) (pss_cons (ps_if (pt_cmpR op_ne (pe_callB (cr_max rfl) (by rfl) T.b_max bt_max (pa_cons (pe_lc (own := [("_law_part", 17)]) (g := gName 17) (tt := tYes) rfl sclaw.nd (pi_list (pv 12)) (blkOk_by (own := [("_law_part", 17)]) (N := Nlaw) (sc := defScope s_law) (by decide +kernel)) (fun _ _ _ _ _ => (pg_name (i := 17) sclaw.nd rfl (Or.inl rfl))) (fun _ _ _ _ _ => pts_nil) (fun _ _ _ _ _ => (pe_dget hu (pv 17) (pv 11) (fun _ _ => rfl)))) pa_nil)) (pe_dget hu (pe_ix ix_list (pv 9) (pe_op op_add (pv 7) (pv 8)) (fun _ _ => rfl)) (pv 11) (fun _ _ => rfl)) (nomark _)) (pss_one (ps_ret pe_bl)) pss_nil)
        (pss_one (ps_if (pt_cmpR (op_neE hr.units0) (pe_lc (own := [("_law_k", 13)]) (g := gName 13) rfl sclaw.nd (pi_range1 (by rfl) T.b_range (pa_cons (pe_op op_add (pv 7) (pv 8)) pa_nil)) (blkOk_by (own := [("_law_k", 13)]) (N := Nlaw) (sc := defScope s_law) (by decide +kernel)) (fun _ _ _ _ _ => (pg_name (i := 13) sclaw.nd rfl (Or.inl rfl))) (fun _ _ _ _ _ => (pts_one (pt_cmpR op_gt (pe_dget hu (pe_ix (ix_listK (K := K) rfl) (pv 9) (pv 13) (fun _ _ => rfl)) (pv 11) (fun _ _ => rfl)) (pe_dget hu (pe_ix (ix_listK (K := K) rfl) (pv 9) (pe_op op_add (pv 13) pe_int) (fun _ _ => rfl)) (pv 11) (fun _ _ => rfl)) (nomark _)))) (fun _ _ _ _ _ => (pv 13))) (pe_lst pa_nil) (nomark _)) (pss_one (ps_ret pe_bl)) pss_nil))))
      (C8.pss_cut (ps_setLc (i := 14) (own := [("_law_k", 13)]) (g := gName 13) rfl sclaw.nd rfl rfl (sw_true rfl rfl rfl (by decide +kernel)) (pi_range1 (by rfl) T.b_range (pa_cons (pe_op op_add (pv 7) (pv 8)) pa_nil)) (blkOk_by (own := [("_law_k", 13)]) (N := Nlaw) (sc := defScope s_law) (by decide +kernel)) (fun _ _ _ _ _ => (pg_name (i := 13) sclaw.nd rfl (Or.inl rfl))) (fun _ _ _ _ _ => (pts_one (pt_cmpR (op_eq_lev hr.units0) (pe_ix (ix_listK (K := K) rfl) (pv 9) (pv 13) (fun _ _ => rfl)) (pe_ix (ix_listK (K := K) rfl) (pv 9) (pe_op op_add (pv 13) pe_int) (fun _ _ => rfl)) (nomark _)))) (fun _ _ _ _ _ => (pv 13)))
      (C8.pss_cut (ps_for PassesOwn.never rfl (pi_list (pe_slice sl_list (pv 14) po_none (po_some pe_int))) (pg_name (i := 13) sclaw.nd rfl (Or.inr rfl)) (pss_one (ps_if (pt_cmpR (op_neE hr.units0) (pe_lc (own := [("_law_level", 16)]) (g := gName 16) rfl sclaw.nd (pi_list (pe_slice sl_list (pv 9) (po_some (pv 13)) po_none)) (blkOk_by (own := [("_law_level", 16)]) (N := Nlaw) (sc := defScope s_law) (by decide +kernel)) (fun _ _ _ _ _ => (pg_name (i := 16) sclaw.nd rfl (Or.inl rfl))) (fun _ _ _ _ _ => (pts_one (pt_cmpR (op_ne_lev hr.units0) (pv 16) (pe_ix (ix_listK (K := K) rfl) (pv 9) (pv 13) (fun _ _ => rfl)) (nomark _)))) (fun _ _ _ _ _ => (pv 16))) (pe_lst pa_nil) (nomark _)) (pss_one (ps_ret pe_bl)) pss_nil)))
      (pss_cons (ps_set (i := 15) sclaw.nd rfl (Or.inr rfl) (C8.pe_c c__law_at hr (by decide) (by rfl) (pa_cons (pv 5) (pa_cons (pe_tup (pa_cons (pe_ix ix_tup (pv 6) pe_int (fun _ _ => rfl)) (pa_cons (pe_op op_add (pe_op op_add (pv 4) pe_int) (C8.pe_c c__law_draw hr (by decide) (by rfl) (pa_cons (pv 1) (pa_cons pe_int pa_nil)))) pa_nil))) (pa_cons (pv 7) pa_nil)))))
      (pss_one (ps_if (pt_cmpR (op_neE hr.units0) (pe_lc (own := [("_law_end", 11)]) (g := gName 11) rfl sclaw.nd (pi_list (pe_dget hu (pv 3) pe_str (fun _ _ => rfl))) (blkOk_by (own := [("_law_end", 11)]) (N := Nlaw) (sc := defScope s_law) (by decide +kernel)) (fun _ _ _ _ _ => (pg_name (i := 11) sclaw.nd rfl (Or.inl rfl))) (fun _ _ _ _ _ => (pts_one (pt_cmpR op_lt (pe_dget hu (pe_ix (ix_listK (K := K) rfl) (pv 15) (pv 7) (fun _ _ => rfl)) (pv 11) (fun _ _ => rfl)) (pe_dget hu (pe_ix (ix_listK (K := K) rfl) (pv 9) (pv 7) (fun _ _ => rfl)) (pv 11) (fun _ _ => rfl)) (nomark _)))) (fun _ _ _ _ _ => (pv 11))) (pe_lst pa_nil) (nomark _)) (pss_one (ps_ret pe_bl)) pss_nil))))))))))))))
    (pss_one (ps_ret pe_bl)))), ?_⟩
    refine ⟨_, rfl, a, ns, rfl, hS, fun H0 p cl s0 p0 => ?_⟩
    refine ⟨_, rfl, a, _, rfl, .inl (s0.seq hS), _, _, rfl, _, _, rfl, rfl, _, rfl, ?_, ?_, ?_⟩
    · split <;> omega
    · split <;> omega
    refine for_it (walk_range (lo := 0)) (fun i σ H' => PenAt H' p cl (1100 * i) ∧ ∃ v2 v3 v4 v5 v6 v7 v8 v9 v10 v11 v12 v13 v14 v15 v16 v17 : Option V, σ = [some (.ref a), some (.ref p), v2, v3, v4, v5, v6, v7, v8, v9, v10, v11, v12, v13, v14, v15, v16, v17])
      ⟨p0, none, none, none, none, none, none, none, none, none, none, none, none, none, none, none, none, rfl⟩ (fun _ _ _ _ _ => trivial) ?_ ?_
    · rintro i y σ H1 H2 hi ⟨p1, v2, v3, v4, v5, v6, v7, v8, v9, v10, v11, v12, v13, v14, v15, v16, v17, rfl⟩ ⟨e2, rfl⟩
      subst e2
      have hi4 : i < 4 := by
        have h2 : (2 + (if (((List.map V.int ns).length : Int) < 2) then ((List.map V.int ns).length : Int) else 2)) ≤ 4 := by split <;> omega
        omega
      refine ⟨_, rfl, p, cl, 1100 * i, rfl, p1, by omega, fun H3 d e b es rs x3 p3 hd3 R => ?_⟩
      have hdp := p1.nn hd3
      -- the amount
      refine ⟨_, rfl, _, rfl, p, cl, 40, 1100 * i + 1000, rfl, p3, by omega, by omega, by omega, fun H4 j4 a4 b4 x4 p4 => ?_⟩
      refine ⟨_, rfl, p, cl, 2000, 1100 * i + 1001, rfl, p4, by omega, by omega, by omega, fun H5 j5 a5 b5 x5 p5 => ?_⟩
      refine ⟨_, rfl, _, _, rfl, rfl, ⟨by decide, by decide, by decide⟩, p, cl, _, 1100 * i + 1002, rfl, p5, by decide, by decide, by omega, fun H6 j6 a6 b6 x6 p6 => ⟨(by show 4 ≤ sizeLine; decide), fun l6 hl6 => ?_⟩⟩
      have R6 : RawAt H6 d e b es rs := ((R.ex x4 p3 hdp).ex x5 p4 hdp).ex x6 p5 hdp
      have b6 : j6 < 10000000 := b6
      refine ⟨p, cl, _, 1100 * i + 1003, rfl, p6.new hl6, by omega, .inr ⟨l6, _, rfl, upd_same, by simp, by show 4 ≤ 1000; decide, fun H7 y7 hy7 x7 p7 => ?_⟩⟩
      obtain ⟨amt, rfl, am0, am1⟩ : ∃ z : Int, y7 = .int z ∧ 0 ≤ z ∧ z < 10000000 := by
        simp only [List.mem_cons, List.not_mem_nil, or_false] at hy7
        rcases hy7 with h | h | h | h
        · exact ⟨_, h, by omega, by omega⟩
        · exact ⟨_, h, by omega, by omega⟩
        · exact ⟨_, h, by decide, by decide⟩
        · exact ⟨_, h, by omega, by omega⟩
      have R7 : RawAt H7 d e b es rs := (R6.same (same_put (Same.refl _) hl6)).ex x7 (p6.new hl6) hdp
      clear R6 R x7 p6 hl6 x6 p5 x5 p4 x4 p3 x3 hd3
      -- the market
      refine ⟨_, rfl, d, e, b, es, rs, rfl, R7, fun H8 m cs ps s8 M8 hok hperm => ?_⟩
      have R8 := R7.same s8
      have p8 : PenAt H8 p cl (1100 * i + 1004) := p7.same s8
      have nd : cs.Nodup := hperm.nodup_iff.mpr R8.nd
      have l4 : cs.length ≤ 4 := by rw [hperm.length_eq]; exact R8.l4
      have en : ∀ z ∈ cs, NameOk z := fun z hz => R8.en z (hperm.mem_iff.mp hz)
      refine ⟨_, rfl, _, rfl, d, _, rfl, rget_e R8.d, p, cl, _, 1100 * i + 1004, rfl, p8, by omega, .inr ⟨e, _, rfl, R8.e, by intro z; exact R8.ne (List.map_eq_nil_iff.mp z), by rw [List.length_map]; have := R8.l4; omega, fun H9 y9 hy9 x9 p9 => ?_⟩⟩
      obtain ⟨z, hz, rfl⟩ := List.mem_map.mp hy9
      have hzc : z ∈ cs := hperm.mem_iff.mpr hz
      have R9 := R8.ex x9 p8 hdp
      have M9 := M8.ex x9 p8
      refine ⟨_, rfl, (by show 2 ≤ sizeLine; decide), fun t ht => ⟨(by show 2 ≤ sizeLine; decide), fun tt htt => ⟨tt, _, rfl, SqT.of upd_same, rfl, _, _, rfl, _, _, rfl, rfl, ?_⟩⟩⟩
      have sA := (same_put (Same.refl H9) ht (o := .tup [.str z, .int amt])).trans (same_put (Same.refl _) htt (o := .tup [.ref m, .ref t]))
      have htA : (upd (upd H9 t (.tup [.str z, .int amt])) tt (.tup [.ref m, .ref t])) t = some (.tup [.str z, .int amt]) := by
        rw [upd_ne (fun q => by rw [← q, upd_same] at htt; cases htt), upd_same]
      generalize upd (upd H9 t (.tup [.str z, .int amt])) tt (.tup [.ref m, .ref t]) = HA at sA htA
      have RA := R9.same sA
      have MA := M9.same sA
      have pA := p9.same sA
      clear R9 M9 p9 x9 R8 M8 p8 s8 R7 p7 ht htt sA
      -- one, two
      refine ⟨_, rfl, p, cl, 9, 1100 * i + 1005, rfl, pA, by omega, by omega, by omega, fun HB jB aB bB xB pB => ?_⟩
      refine ⟨_, rfl, p, cl, 9, 1100 * i + 1006, rfl, pB, by omega, by omega, by omega, fun HC jC aC bC xC pC => ⟨(by show 2 ≤ sizeLine; decide), fun tc htc => ⟨tc, _, rfl, SqT.of upd_same, rfl, _, _, rfl, _, _, rfl, rfl, ?_⟩⟩⟩
      have htB := xB _ _ (pA.ne htA (by intro q z; cases z)) htA
      have htC := xC _ _ (pB.ne htB (by intro q z; cases z)) htB
      have RC := (RA.ex xB pA hdp).ex xC pB hdp
      have MC := (MA.ex xB pA).ex xC pB
      have sD := same_put (Same.refl HC) htc (o := .tup [.int jB, .int jC])
      have htD := sD _ _ htC
      have RD := RC.same sD
      have MD := MC.same sD
      have pD := pC.same sD
      generalize upd HC tc (.tup [.int jB, .int jC]) = HD at htD RD MD pD
      clear RC MC pC htC htB htA RA MA pA pB xB xC sD htc
      obtain ⟨one, rfl⟩ : ∃ n : Nat, jB = (n : Int) := ⟨jB.toNat, by omega⟩
      obtain ⟨two, rfl⟩ : ∃ n : Nat, jC = (n : Int) := ⟨jC.toNat, by omega⟩
      have one8 : one ≤ 8 := by omega
      have two8 : two ≤ 8 := by omega
      refine ⟨_, rfl, _, rfl, _, rfl, _, rfl, _, _, rfl, rfl, m, t, z, amt, one + two, cs, ps, rfl, by omega, MD, hok, htD, en z hzc, hzc, nd, l4, am0, by omega, fun HE fd0 ds sE hfd hfd' hdl hdL hdn => ?_⟩
      have TE : Tn cO cC cM HE d e m t fd0 es cs ps z amt ds := ⟨⟨b, sE _ _ RD.d⟩, sE _ _ RD.e, MD.same sE, sE _ _ htD, hfd', hdL⟩
      have pE := pD.same sE
      have dsp : ∀ d' ∈ ds, d' ≠ p := fun d' hd' => pD.nn (hdn d' hd')
      have esn := RD.ne
      clear RD MD htD pD sE hfd hfd' hdL hdn
      obtain ⟨hd0, hhd⟩ : ∃ d', ds[one]? = some d' := ⟨_, List.getElem?_eq_getElem (by omega)⟩
      have hns : Ns (offs ps) := fun o ho => by
        obtain ⟨q, hq, rfl⟩ := List.mem_map.mp ho
        exact (hok q hq).toOffN
      have hgs : ∀ o ∈ offs ps, o.goal ∈ cs := fun o ho => by
        obtain ⟨q, hq, rfl⟩ := List.mem_map.mp ho
        exact (hok q hq).g
      refine ⟨fun σ' H' => HE = H' ∧ σ' = [some (.ref a), some (.ref p), some (.int (0 + (i : Nat))), some (.ref d), some (.int amt), some (.ref m), some (.ref t), some (.int one), some (.int two), some (.ref fd0), some (.ref hd0), v11, v12, v13, v14, v15, v16, v17], ?_, ?_⟩
      · exact ⟨_, rfl, _, rfl, fd0, _, _, _, rfl, rfl, SqL.of TE.fo, at_ref hhd, rfl, rfl⟩
      rintro σ' H' ⟨rfl, rfl⟩
      generalize hA : lev (offs ps) (start1 z amt) one = A
      have loA : Lo A := fun c => by rw [← hA]; exact Int.le_trans (start_lo z am0 c) (lev_ge _ _ one c)
      have outA : ∀ c, c ∉ cs → A c = -1 := fun c hc => by
        rw [← hA, lev_out hgs hc]
        exact start_out _ fun q => hc (q ▸ hzc)
      have bA : ∀ c, A c ≤ 10 ^ 30 := fun c => by
        rw [← hA]
        exact Int.le_trans (lev_bound hns (B := 10000000) (by decide) (start_bound z (by decide) (by omega)) one c) (pow_le one (by omega))
      have hd0A : HE hd0 = some (.dK (kvOf cs A)) := by rw [← hA]; exact TE.lv one hd0 hhd
      -- the parts
      refine ⟨fun σ' H' => Same HE H' ∧ ∃ (pl : Addr) (js : List (Str × Addr)), σ' = [some (.ref a), some (.ref p), some (.int (0 + (i : Nat))), some (.ref d), some (.int amt), some (.ref m), some (.ref t), some (.int one), some (.int two), some (.ref fd0), some (.ref hd0), v11, some (.ref pl), v13, v14, v15, v16, v17] ∧ H' pl = some (.lst (js.map fun x => V.ref x.2)) ∧ js.length ≤ 4 ∧ (∀ x ∈ js, x.1 ∈ cs ∧ 0 ≤ A x.1 ∧ H' x.2 = some (.dK (kvOf cs (lev (offs ps) (start1 x.1 (A x.1)) two)))) ∧ (∀ e' ∈ es, 0 ≤ A e' → ∃ x ∈ js, x.1 = e'), ?_, ?_⟩
      · obtain ⟨b', hb'⟩ := TE.re
        refine ⟨_, rfl, d, _, rfl, rget_e hb', e, rfl, ⟨_, SqL.of TE.le⟩, fun D hD => ?_⟩
        refine lc_it (walk_list (K := K) (a := e) (xs := es.map V.str)) (fun k H' => Same HE H' ∧ ∃ js : List (Str × Addr), H' D = some (.lst (js.map fun x => V.ref x.2)) ∧ js.length ≤ k ∧ (∀ x ∈ js, x.1 ∈ cs ∧ 0 ≤ A x.1 ∧ H' x.2 = some (.dK (kvOf cs (lev (offs ps) (start1 x.1 (A x.1)) two)))) ∧ (∀ k' < k, ∀ e', es[k']? = some e' → 0 ≤ A e' → ∃ x ∈ js, x.1 = e'))
          ⟨same_put (Same.refl _) hD, [], upd_same, Nat.le_refl _, fun x hx => absurd hx List.not_mem_nil, fun k' hk' => absurd hk' (Nat.not_lt_zero _)⟩ (fun _ _ _ h => SqL.of (h.1 _ _ TE.le)) ?_ ?_
        · rintro k y H1 H2 hk ⟨s1, js, hD1, hjl, hjs, hcov⟩ ⟨e2, hy⟩
          subst e2
          have hy : (es.map V.str)[k]? = some y := hy
          rw [List.getElem?_map] at hy
          cases hek : es[k]? with
          | none => rw [hek] at hy; cases hy
          | some u =>
          rw [hek] at hy
          obtain rfl : V.str u = y := Option.some.inj hy
          have huc : u ∈ cs := hperm.mem_iff.mpr (List.mem_of_getElem? hek)
          have gu := lget (s1 _ _ hd0A) huc
          refine ⟨rfl, _, rfl, _, rfl, hd0, _, rfl, gu, _, _, rfl, rfl, _, rfl, ?_⟩
          by_cases hu0 : 0 ≤ A u
          · rw [decide_eq_true hu0]
            refine iteT ⟨_, rfl, _, rfl, _, rfl, _, rfl, hd0, _, rfl, gu, (by show 2 ≤ sizeLine; decide), fun t2 ht2 => ?_⟩
            have s2 := same_put (Same.refl _) ht2 (o := .tup [.str u, .int (A u)])
            have sE2 := s1.trans s2
            refine ⟨_, rfl, m, t2, u, A u, two, cs, ps, rfl, by omega, (TE.same sE2).mkt, hok, upd_same, en u huc, huc, nd, l4, hu0, bA u, fun H3 q ds2 s3 hq hq' hl2 hL2 hn2 => ?_⟩
            obtain ⟨dd, hdd⟩ : ∃ d', ds2[two]? = some d' := ⟨_, List.getElem?_eq_getElem (by omega)⟩
            have sE3 := s2.trans s3
            have hD3 := sE3 _ _ hD1
            refine ⟨_, rfl, q, _, _, _, rfl, rfl, SqL.of hq', at_ref hdd, _, hD3, ?_, same_put (s1.trans sE3) hD, js ++ [(u, dd)], ?_, ?_, ?_, ?_⟩
            · rw [List.length_map]
              exact Nat.lt_of_le_of_lt hjl (Nat.lt_of_lt_of_le (by rw [List.length_map] at hk; exact hk) (Nat.le_trans (by rw [← hperm.length_eq]; exact l4 : es.length ≤ 4) (by decide)))
            · rw [upd_same, List.map_append]
              rfl
            · rw [List.length_append]
              exact Nat.succ_le_succ hjl
            · intro x hx
              rcases List.mem_append.mp hx with h | h
              · obtain ⟨h1, h2, h3⟩ := hjs x h
                have h4 := sE3 _ _ h3
                exact ⟨h1, h2, by rw [upd_ne (ne_of h4 hD3 (by intro q; cases q))]; exact h4⟩
              · rw [List.mem_singleton.mp h]
                have h4 := hL2 two dd hdd
                exact ⟨huc, hu0, by rw [upd_ne (ne_of h4 hD3 (by intro q; cases q))]; exact h4⟩
            · intro k' hk' e' he' ha'
              by_cases hkk : k' < k
              · obtain ⟨x, hx, hxe⟩ := hcov k' hkk e' he' ha'
                exact ⟨x, List.mem_append_left _ hx, hxe⟩
              · obtain rfl : k' = k := by omega
                rw [hek] at he'
                obtain rfl := Option.some.inj he'
                exact ⟨(u, dd), List.mem_append_right _ (List.mem_singleton.mpr rfl), rfl⟩
          · rw [decide_eq_false hu0]
            refine iteF ⟨s1, js, hD1, Nat.le_succ_of_le hjl, hjs, fun k' hk' e' he' ha' => ?_⟩
            by_cases hkk : k' < k
            · exact hcov k' hkk e' he' ha'
            · obtain rfl : k' = k := by omega
              rw [hek] at he'
              obtain rfl := Option.some.inj he'
              exact absurd ha' hu0
        · rintro H1 ⟨s1, js, hD1, hjl, hjs, hcov⟩
          rw [List.length_map] at hjl hcov
          refine ⟨s1, D, js, rfl, hD1, Nat.le_trans hjl (by rw [← hperm.length_eq]; exact l4), hjs, fun e' he' ha' => ?_⟩
          obtain ⟨k', hk'⟩ := List.getElem?_of_mem he'
          exact hcov k' (List.getElem?_eq_some_iff.mp hk').1 e' hk' ha'
      rintro σ' HF ⟨sF, pl, js, rfl, hpl, hjl, hjs, hcov⟩
      have TF := TE.same sF
      have fnd : ∀ k, k ≤ one + two → ∃ dk, ds[k]? = some dk ∧ ∀ H', Same HE H' → H' dk = some (.dK (kvOf cs (lev (offs ps) (start1 z amt) k))) := fun k hk => by
        obtain ⟨dk, hdk⟩ : ∃ d', ds[k]? = some d' := ⟨_, List.getElem?_eq_getElem (by omega)⟩
        exact ⟨dk, hdk, fun H' s' => s' _ _ (TE.lv k dk hdk)⟩
      obtain ⟨b', hb'⟩ := TF.re
      -- for end in raw['ends']
      refine ⟨fun σ' H' => Same HF H' ∧ ∃ v11 : Option V, σ' = [some (.ref a), some (.ref p), some (.int (0 + (i : Nat))), some (.ref d), some (.int amt), some (.ref m), some (.ref t), some (.int one), some (.int two), some (.ref fd0), some (.ref hd0), v11, some (.ref pl), v13, v14, v15, v16, v17], ?_, ?_⟩
      · refine ⟨_, rfl, d, _, rfl, rget_e hb', e, rfl, ⟨_, SqL.of TF.le⟩, for_it (walk_list (K := K) (a := e) (xs := es.map V.str)) (fun k σ H' => Same HF H' ∧ ∃ v11 : Option V, σ = [some (.ref a), some (.ref p), some (.int (0 + (i : Nat))), some (.ref d), some (.int amt), some (.ref m), some (.ref t), some (.int one), some (.int two), some (.ref fd0), some (.ref hd0), v11, some (.ref pl), v13, v14, v15, v16, v17]) ⟨Same.refl _, _, rfl⟩ (fun _ _ _ _ h => SqL.of (h.1 _ _ TF.le)) ?_ ?_⟩
        · rintro k y σ H1 H2 hk ⟨s1, w11, rfl⟩ ⟨e2, hy⟩
          subst e2
          have hy : (es.map V.str)[k]? = some y := hy
          rw [List.getElem?_map] at hy
          cases hek : es[k]? with
          | none => rw [hek] at hy; cases hy
          | some u =>
          rw [hek] at hy
          obtain rfl : V.str u = y := Option.some.inj hy
          have huc : u ∈ cs := hperm.mem_iff.mpr (List.mem_of_getElem? hek)
          refine ⟨_, rfl, pl, rfl, ⟨_, SqL.of (s1 _ _ hpl)⟩, fun D hD => lc_it (walk_list (K := K) (a := pl) (xs := js.map fun x => V.ref x.2)) (fun k' H' => Same H2 H' ∧ H' D = some (.lst (((js.take k').map fun x => lev (offs ps) (start1 x.1 (A x.1)) two u).map V.int)))
            ⟨same_put (Same.refl _) hD, upd_same⟩ (fun _ _ _ h => SqL.of (h.1 _ _ (s1 _ _ hpl))) ?_ ?_⟩
          · rintro k' y H3 H4 hk' ⟨s3, hD3⟩ ⟨e4, hy2⟩
            subst e4
            have hy2 : (js.map fun x => V.ref x.2)[k']? = some y := hy2
            rw [List.getElem?_map] at hy2
            cases hjk : js[k']? with
            | none => rw [hjk] at hy2; cases hy2
            | some x =>
            rw [hjk] at hy2
            obtain rfl : V.ref x.2 = y := Option.some.inj hy2
            obtain ⟨h1, h2, h3⟩ := hjs x (List.mem_of_getElem? hjk)
            refine ⟨rfl, yes_if ⟨_, rfl, _, rfl, x.2, _, rfl, lget (s3 _ _ (s1 _ _ h3)) huc, _, hD3, ?_, same_put s3 hD, ?_⟩⟩
            · rw [List.length_map, List.length_map, List.length_take]
              exact Nat.lt_of_le_of_lt (Nat.le_trans (Nat.min_le_right _ _) hjl) (by decide)
            · rw [upd_same, List.take_succ, hjk, List.map_append, List.map_append]
              rfl
          · rintro H3 ⟨s3, hD3⟩
            have et : js.take (js.map fun x => V.ref x.2).length = js := by rw [List.length_map, List.take_length]
            rw [et] at hD3
            have hAz : 0 ≤ A z := by rw [← hA]; exact Int.le_trans (by rw [start_at]; exact am0) (lev_ge (offs ps) (start1 z amt) one z)
            obtain ⟨x0, hx0, _⟩ := hcov z hz hAz
            refine ⟨D, _, rfl, SqL.of hD3, ?_, fun mx hmx hle => ?_⟩
            · rw [List.length_map]
              exact List.length_pos_iff.mpr fun q => by rw [q] at hx0; cases hx0
            have s13 := s1.trans s3
            obtain ⟨dt, hdt, hdtl⟩ := fnd (one + two) (Nat.le_refl _)
            have hdt3 := hdtl H3 (sF.trans s13)
            have mxe : mx = lev (offs ps) (start1 z amt) (one + two) u := by
              obtain ⟨x, hx, rfl⟩ := List.mem_map.mp hmx
              rw [lev_add, hA]
              refine Int.le_antisymm (lev_mono hns (start_le loA x.1) two u) ?_
              rcases lev_part hns loA outA two u with h | ⟨e', h1, h2, h3⟩
              · rw [h]
                exact Int.le_trans (start_lo x.1 (hjs x hx).2.1 u) (lev_ge _ _ two u)
              · obtain ⟨x', hx', rfl⟩ := hcov e' (hperm.mem_iff.mp h1) h2
                exact Int.le_trans h3 (hle _ (List.mem_map.mpr ⟨x', hx', rfl⟩))
            refine ⟨_, rfl, _, rfl, _, rfl, _, _, rfl, rfl, fd0, _, _, _, rfl, rfl, SqL.of (s13 _ _ TF.fo), at_ref2 hdt, _, rfl, dt, _, rfl, lget hdt3 huc, rfl, _, rfl, iteNS (by rw [mxe]) ?_⟩
            -- never smaller
            refine ⟨_, rfl, _, rfl, _, _, rfl, rfl, _, rfl, by omega, by omega, fun D2 hD2 => lc_it (walk_range (lo := 0) (n := ((one : Int) + (two : Int)).toNat)) (fun k' H' => Same H3 H' ∧ H' D2 = some (.lst [])) ⟨same_put (Same.refl _) hD2, upd_same⟩ (fun _ _ _ _ => trivial) ?_ ?_⟩
            · rintro k' y H4 H5 hk' ⟨s4, hD4⟩ ⟨e5, rfl⟩
              subst e5
              obtain ⟨d1, g1, g2⟩ := fnd k' (by omega)
              obtain ⟨d2, g3, g4⟩ := fnd (k' + 1) (by omega)
              have s14 := s13.trans s4
              refine ⟨rfl, _, rfl, _, rfl, fd0, _, _, _, rfl, rfl, SqL.of (s14 _ _ TF.fo), at_ref0 g1, _, rfl, d1, _, rfl, lget (g2 _ (sF.trans s14)) huc, _, rfl, _, rfl, _, _, rfl, rfl, fd0, _, _, _, rfl, rfl, SqL.of (s14 _ _ TF.fo), at_ref1 g3, _, rfl, d2, _, rfl, lget (g4 _ (sF.trans s14)) huc, _, _, rfl, rfl, _, rfl, ?_⟩
              rw [decide_eq_false (Int.not_lt.mpr (lev_succ (offs ps) (start1 z amt) k' u))]
              exact iteF ⟨s4, hD4⟩
            · rintro H4 ⟨s4, hD4⟩
              refine ⟨Nat.zero_le _, fun tl htl => ⟨D2, tl, [], rfl, rfl, SqL.of (by rw [upd_ne (ne_of_none hD4 htl)]; exact hD4), upd_same, _, rfl, iteF ⟨same_put (s13.trans s4) (((s13.trans s4)).free htl), _, rfl⟩⟩⟩
        · rintro σ H1 ⟨s1, w11, rfl⟩
          exact ⟨s1, _, rfl⟩
      rintro σ' HG ⟨sG, w11, rfl⟩
      have sEG := sF.trans sG
      have TG := TE.same sEG
      -- still
      refine ⟨fun σ' H' => Same HG H' ∧ ∃ (sl : Addr) (ks : List Nat), σ' = [some (.ref a), some (.ref p), some (.int (0 + (i : Nat))), some (.ref d), some (.int amt), some (.ref m), some (.ref t), some (.int one), some (.int two), some (.ref fd0), some (.ref hd0), w11, some (.ref pl), v13, some (.ref sl), v15, v16, v17] ∧ H' sl = some (.lst (ks.map fun k : Nat => V.int (0 + (k : Int)))) ∧ ∀ k ∈ ks, k < one + two ∧ ∀ c ∈ cs, lev (offs ps) (start1 z amt) k c = lev (offs ps) (start1 z amt) (k + 1) c, ?_, ?_⟩
      · refine ⟨_, rfl, _, rfl, _, _, rfl, rfl, _, rfl, by omega, by omega, fun D hD => lc_it (walk_range (lo := 0) (n := ((one : Int) + (two : Int)).toNat)) (fun k' H' => Same HG H' ∧ ∃ ks : List Nat, ks.length ≤ k' ∧ H' D = some (.lst (ks.map fun k : Nat => V.int (0 + (k : Int)))) ∧ ∀ k ∈ ks, k < one + two ∧ ∀ c ∈ cs, lev (offs ps) (start1 z amt) k c = lev (offs ps) (start1 z amt) (k + 1) c)
          ⟨same_put (Same.refl _) hD, [], Nat.le_refl _, upd_same, fun k hk => absurd hk List.not_mem_nil⟩ (fun _ _ _ _ => trivial) ?_ ?_⟩
        · rintro k' y H4 H5 hk' ⟨s4, ks, hkl, hD4, hks⟩ ⟨e5, rfl⟩
          subst e5
          have hk2 : k' < one + two := by omega
          obtain ⟨d1, g1, g2⟩ := fnd k' (by omega)
          obtain ⟨d2, g3, g4⟩ := fnd (k' + 1) (by omega)
          have s14 := sEG.trans s4
          have f4 := (TG.same s4).fo
          refine ⟨rfl, _, rfl, _, rfl, fd0, _, _, _, rfl, rfl, SqL.of f4, at_ref0 g1, _, rfl, _, rfl, _, _, rfl, rfl, fd0, _, _, _, rfl, rfl, SqL.of f4, at_ref1 g3, d1, d2, cs, _, _, rfl, rfl, g2 _ s14, g4 _ s14, _, rfl, ?_⟩
          cases hb : cs.all fun c => decide (lev (offs ps) (start1 z amt) k' c = lev (offs ps) (start1 z amt) (k' + 1) c) with
          | false => exact iteF ⟨s4, ks, Nat.le_succ_of_le hkl, hD4, hks⟩
          | true =>
            refine iteT ⟨_, rfl, _, hD4, ?_, same_put s4 hD, ks ++ [k'], ?_, ?_, ?_⟩
            · rw [List.length_map]
              exact Nat.lt_of_le_of_lt hkl (Nat.lt_of_lt_of_le hk2 (Nat.le_trans (by omega : one + two ≤ 16) (by decide)))
            · rw [List.length_append]; exact Nat.succ_le_succ hkl
            · rw [upd_same, List.map_append]
              rfl
            · intro k hk
              rcases List.mem_append.mp hk with h | h
              · exact hks k h
              · rw [List.mem_singleton.mp h]
                exact ⟨hk2, fun c hc => of_decide_eq_true (List.all_eq_true.mp hb c hc)⟩
        · rintro H4 ⟨s4, ks, hkl, hD4, hks⟩
          exact ⟨s4, D, ks, rfl, hD4, hks⟩
      rintro σ' HI ⟨sI, sl, ks, rfl, hsl, hks⟩
      have sEI := sEG.trans sI
      have TI := TE.same sEI
      -- for k in still[:1]
      refine ⟨fun σ' H' => Same HI H' ∧ ∃ v13 : Option V, σ' = [some (.ref a), some (.ref p), some (.int (0 + (i : Nat))), some (.ref d), some (.int amt), some (.ref m), some (.ref t), some (.int one), some (.int two), some (.ref fd0), some (.ref hd0), w11, some (.ref pl), v13, some (.ref sl), v15, v16, v17], ?_, ?_⟩
      · refine ⟨_, rfl, _, rfl, sl, _, rfl, SqL.of hsl, fun q1 hq1 => ?_⟩
        have ec : cutV (ks.map fun k : Nat => V.int (0 + (k : Int))) none (some 1) = (ks.take 1).map fun k : Nat => V.int (0 + (k : Int)) := by
          have := cutV_to (ks.map fun k : Nat => V.int (0 + (k : Int))) 1
          rw [← List.map_take] at this
          exact this
        rw [ec]
        have s1 := same_put (Same.refl HI) hq1 (o := .lst ((ks.take 1).map fun k : Nat => V.int (0 + (k : Int))))
        refine ⟨q1, rfl, ⟨_, SqL.of upd_same⟩, for_it (walk_list (K := K) (a := q1) (xs := (ks.take 1).map fun k : Nat => V.int (0 + (k : Int)))) (fun _ σ H' => Same (upd HI q1 (.lst ((ks.take 1).map fun k : Nat => V.int (0 + (k : Int))))) H' ∧ ∃ v13 : Option V, σ = [some (.ref a), some (.ref p), some (.int (0 + (i : Nat))), some (.ref d), some (.int amt), some (.ref m), some (.ref t), some (.int one), some (.int two), some (.ref fd0), some (.ref hd0), w11, some (.ref pl), v13, some (.ref sl), v15, v16, v17]) ⟨Same.refl _, _, rfl⟩ (fun _ _ _ _ h => SqL.of (h.1 _ _ upd_same)) ?_ ?_⟩
        · rintro k0 y σ H1 H2 hk ⟨s2, w13, rfl⟩ ⟨e2, hy⟩
          subst e2
          obtain ⟨k, hkm, rfl⟩ := List.mem_map.mp (List.mem_of_getElem? hy)
          obtain ⟨hk2, heq⟩ := hks k (List.mem_of_mem_take hkm)
          have s12 := s1.trans s2
          have sE2 := sEI.trans s12
          have f2 := (TE.same sE2).fo
          obtain ⟨d1, g1, g2⟩ := fnd k (by omega)
          have still := lev_still hgs heq
          refine ⟨_, rfl, _, rfl, (k : Int), congrArg V.int (Int.zero_add _), fd0, _, rfl, SqL.of f2, fun q2 hq2 => ?_⟩
          rw [cutV_from, ← List.map_drop]
          have s3 := same_put (Same.refl _) hq2 (o := .lst ((ds.drop k).map V.ref))
          refine ⟨q2, rfl, ⟨_, SqL.of upd_same⟩, fun D hD => lc_it (walk_list (K := K) (a := q2) (xs := (ds.drop k).map V.ref)) (fun _ H' => Same (upd _ q2 (.lst ((ds.drop k).map V.ref))) H' ∧ H' D = some (.lst [])) ⟨same_put (Same.refl _) hD, upd_same⟩ (fun _ _ _ h => SqL.of (h.1 _ _ upd_same)) ?_ ?_⟩
          · rintro j y H4 H5 hj ⟨s4, hD4⟩ ⟨e5, hy2⟩
            subst e5
            have hy2 : ((ds.drop k).map V.ref)[j]? = some y := hy2
            rw [List.getElem?_map, List.getElem?_drop] at hy2
            cases hdj : ds[k + j]? with
            | none => rw [hdj] at hy2; cases hy2
            | some dj =>
            rw [hdj] at hy2
            obtain rfl : V.ref dj = y := Option.some.inj hy2
            have sE4 := (sE2.trans s3).trans s4
            have h4 := sE4 _ _ (TE.lv (k + j) dj hdj)
            refine ⟨rfl, _, rfl, _, rfl, _, rfl, fd0, _, _, _, rfl, rfl, SqL.of (TE.same sE4).fo, at_ref0 g1, dj, d1, cs, _, _, rfl, rfl, h4, g2 _ sE4, _, rfl, ?_⟩
            have hb : (cs.all fun c => decide (lev (offs ps) (start1 z amt) (k + j) c = lev (offs ps) (start1 z amt) k c)) = true := List.all_eq_true.mpr fun c _ => decide_eq_true (by rw [still j])
            rw [hb]
            exact iteF ⟨s4, hD4⟩
          · rintro H4 ⟨s4, hD4⟩
            have s34 := s3.trans s4
            exact ⟨Nat.zero_le _, fun tl htl => ⟨D, tl, [], rfl, rfl, SqL.of (by rw [upd_ne (ne_of_none hD4 htl)]; exact hD4), upd_same, _, rfl, iteF ⟨same_put (s2.trans s34) ((s2.trans s34).free htl), _, rfl⟩⟩⟩
        · rintro σ H1 ⟨s2, w13, rfl⟩
          exact ⟨s1.trans s2, _, rfl⟩
      rintro σ' HJ ⟨sJ, w13, rfl⟩
      have sEJ := sEI.trans sJ
      have TJ := TE.same sEJ
      have pJ := pE.same sEJ
      -- more coins
      refine ⟨_, rfl, _, rfl, t, _, _, _, rfl, rfl, SqT.of TJ.ho, atI_nat (by rfl), _, rfl, _, _, rfl, rfl, _, rfl, p, cl, 99, 1100 * i + 1007, rfl, pJ, by omega, by omega, by omega, fun HK jK aK bK xK pK => ⟨_, _, rfl, rfl, (by show 2 ≤ sizeLine; decide), fun t3 ht3 => ?_⟩⟩
      have TK := TJ.ex xK pJ hdp dsp
      have s3 := same_put (Same.refl HK) ht3 (o := .tup [.str z, .int (amt + 1 + jK)])
      refine ⟨_, rfl, m, t3, z, amt + 1 + jK, one, cs, ps, rfl, by omega, (TK.same s3).mkt, hok, upd_same, en z hzc, hzc, nd, l4, by omega, by omega, fun HL q ds3 sL hq hq' hl3 hL3 hn3 => ?_⟩
      have TL := TK.same (s3.trans sL)
      have pL := pK.same (s3.trans sL)
      obtain ⟨dm, hdm⟩ : ∃ d', ds3[one]? = some d' := ⟨_, List.getElem?_eq_getElem (by omega)⟩
      obtain ⟨b2, hb2⟩ := TL.re
      refine ⟨_, rfl, d, _, rfl, rget_e hb2, e, rfl, ⟨_, SqL.of TL.le⟩, fun D hD => lc_it (walk_list (K := K) (a := e) (xs := es.map V.str)) (fun _ H' => Same HL H' ∧ H' D = some (.lst [])) ⟨same_put (Same.refl _) hD, upd_same⟩ (fun _ _ _ h => SqL.of (h.1 _ _ TL.le)) ?_ ?_⟩
      · rintro k y H4 H5 hk ⟨s4, hD4⟩ ⟨e5, hy⟩
        subst e5
        obtain ⟨u, hu2, rfl⟩ := List.mem_map.mp (List.mem_of_getElem? hy)
        have huc : u ∈ cs := hperm.mem_iff.mpr hu2
        have T4 := TL.same s4
        refine ⟨rfl, _, rfl, _, rfl, q, _, _, _, rfl, rfl, SqL.of (s4 _ _ hq'), at_ref hdm, _, rfl, dm, _, rfl, lget (s4 _ _ (hL3 one dm hdm)) huc, _, rfl, _, rfl, fd0, _, _, _, rfl, rfl, SqL.of T4.fo, at_ref hhd, _, rfl, hd0, _, rfl, lget (T4.lv one hd0 hhd) huc, _, _, rfl, rfl, _, rfl, ?_⟩
        rw [decide_eq_false (Int.not_lt.mpr (lev_mono hns (start_mono z (by omega)) one u))]
        exact iteF ⟨s4, hD4⟩
      · rintro H4 ⟨s4, hD4⟩
        refine ⟨Nat.zero_le _, fun tl htl => ⟨D, tl, [], rfl, rfl, SqL.of (by rw [upd_ne (ne_of_none hD4 htl)]; exact hD4), upd_same, _, rfl, iteF ?_⟩⟩
        exact ⟨((pL.same s4).new htl).mono (by omega), _, _, _, _, _, _, _, _, _, _, _, _, _, _, _, _, rfl⟩
    · rintro σ H1 _
      exact kQ H1
end
end Rd
end T_W18
section T_RdHook
set_option Elab.async false
set_option linter.all false
set_option maxRecDepth 100000
set_option maxHeartbeats 4000000
/-! Facts of the top, read by one Hook. -/
namespace Rd
open PySem PySem.Spec PyProof.Rows L2
open PySem.W (Frag)
open He (ga ma eqO eqO_ok ba relB relB_ok dflB dflB_ok kwdB kwdB_ok frG frG_in asD)
abbrev FV : Type := Option (Str × Str × Arguments × FuncBody × Scope × Addr × List Str × Addr)
def fnV (K : Frag) (a : Addr) : FV := match K.lookup a with
  | some ⟨_, _, .func fd, _⟩ => some (fd.name, fd.qualname, fd.params, fd.body, fd.scope, fd.globals, fd.closure.map (·.1), fd.builtins)
  | _ => none
structure DR where
  at_ : Frag → Addr
  name : Str
  qual : Str
  params : Arguments
  body : List Stmt
  scope : Scope
  cl : List Str := []
  dfl : Frag → List V := fun _ => []
  kwd : Frag → List (Str × V) := fun _ => []
def DR.val (d : DR) : FV := some (d.name, d.qual, d.params, .stmts d.body, d.scope, mainGlobals, d.cl, builtinsNs)
def DR.ok (K : Frag) (d : DR) : Bool := PySem.W.keepIn K (.ref (d.at_ K)) && (match K.lookup (d.at_ K) with
  | some ⟨_, _, .func fd, _⟩ => PySem.W.codeIn K fd.code d.qual && (dflB K fd.defaults (d.dfl K) && kwdB K fd.kwdefaults (d.kwd K))
  | _ => false)
theorem DR.funD {K : Frag} {d : DR} (hcl : d.cl = []) (e : fnV K (d.at_ K) = d.val) (c : d.ok K = true) : ∃ fd, FunD K d.name d.qual d.params d.body d.scope (d.dfl K) (d.kwd K) (d.at_ K) fd := by
  obtain ⟨kp, c2⟩ := ba c
  unfold fnV at e
  cases q : K.lookup (d.at_ K) with
  | none =>
    rw [q] at c2
    cases c2
  | some o =>
    obtain ⟨oc, od, dt, osl⟩ := o
    rw [q] at c2 e
    cases dt with
    | func fd =>
      obtain ⟨n1, n2, n3, n4, n5, n6, n7, n8, n9, n10, n11, n12, n13, n14, n15⟩ := fd
      have e2 : (some (n1, n2, n3, n4, n5, n6, n7.map (·.1), n15) : FV) = some (d.name, d.qual, d.params, .stmts d.body, d.scope, mainGlobals, d.cl, builtinsNs) := e
      simp only [Option.some.injEq, Prod.mk.injEq] at e2
      obtain ⟨h1, h2, h3, h4, h5, h6, h7, h8⟩ := e2
      rw [hcl, List.map_eq_nil_iff] at h7
      subst h1 h2 h3 h4 h5 h6 h7 h8
      have c3 : (PySem.W.codeIn K n13 d.qual && (dflB K n8 (d.dfl K) && kwdB K n9 (d.kwd K))) = true := c2
      obtain ⟨k1, k2⟩ := ba c3
      obtain ⟨k3, k4⟩ := ba k2
      exact ⟨_, ⟨oc, od, n8, n9, n10, n11, n12, n13, n14, osl, rfl, q, k1, dflB_ok k3, kwdB_ok k4⟩, kp⟩
    | _ => cases c2
/-! ### a def that closes over __class__ -/
def fileB (P : Program) (K : Frag) : Value → Bool
  | .ref cda => (match K.lookup cda with
    | some ⟨_, _, .fields vs, _⟩ => (match (vs[2]? : Option Value) with
      | some (.str fl _) => P.main.file == fl
      | _ => false)
    | _ => false)
  | _ => false
theorem fileB_ok {P : Program} {K : Frag} {cd : Value} (c : fileB P K cd = true) : ∃ (cda : Addr) (ccl : Value) (cdd : Option Addr) (vs : Array Value) (ccs : Array (Option Value)) (fl : Str) (tf : Tok), cd = .ref cda ∧ K.lookup cda = some ⟨ccl, cdd, .fields vs, ccs⟩ ∧ vs[2]? = some (.str fl tf) ∧ ((P.main.file : Str) == fl) = true := by
  cases cd with
  | ref cda =>
    unfold fileB at c
    dsimp only at c
    cases qa : K.lookup cda with
    | none => rw [qa] at c; cases c
    | some o =>
      obtain ⟨c1, c2, dt, c4⟩ := o
      rw [qa] at c
      cases dt with
      | fields vs =>
        cases qv : (vs[2]? : Option Value) with
        | none =>
          have c : (match (vs[2]? : Option Value) with
            | some (.str fl _) => P.main.file == fl
            | _ => false) = true := c
          rw [qv] at c; cases c
        | some v =>
          have c : (match (vs[2]? : Option Value) with
            | some (.str fl _) => P.main.file == fl
            | _ => false) = true := c
          rw [qv] at c
          cases v with
          | str fl tf => exact ⟨cda, c1, c2, vs, c4, fl, tf, rfl, qa, qv, c⟩
          | _ => cases c
      | _ => cases c
  | _ => cases c
def cellB (K : Frag) (D : Addr) : List (Str × Addr) → Bool
  | [(_, cc)] => (match K.lookup cc with
    | some ⟨_, _, .cell (some (.ref b)), _⟩ => decide (b = D)
    | _ => false)
  | _ => false
theorem cellB_ok {K : Frag} {D cc : Addr} {x : Str} (c : cellB K D [(x, cc)] = true) : ∃ (ccl : Value) (cld : Option Addr) (csl : Array (Option Value)), K.lookup cc = some ⟨ccl, cld, .cell (some (.ref D)), csl⟩ := by
  unfold cellB at c
  dsimp only at c
  cases qc : K.lookup cc with
  | none => rw [qc] at c; cases c
  | some o2 =>
    obtain ⟨c1, c2, dt2, c4⟩ := o2
    rw [qc] at c
    cases dt2 with
    | cell v =>
      cases v with
      | none => cases c
      | some v =>
        cases v with
        | ref b =>
          have eb : b = D := of_decide_eq_true c
          rw [eb]
          exact ⟨c1, c2, c4, rfl⟩
        | _ => cases c
    | _ => cases c
/-- the cell holds D; the code's file is the program's -/
def supB (P : Program) (K : Frag) (a D : Addr) : Bool := match K.lookup a with
  | some ⟨_, _, .func fd, _⟩ => cellB K D fd.closure && fileB P K fd.code
  | _ => false
theorem DR.funS {P : Program} {K : Frag} {d : DR} {D : Addr} (hcl : d.cl = ([("__class__" : Str)] : List Str)) (hd : d.dfl K = []) (e : fnV K (d.at_ K) = d.val) (c : d.ok K = true) (s : supB P K (d.at_ K) D = true) : ∃ cc cdv fd, FunS P K d.name d.qual d.params d.body d.scope (d.kwd K) D (d.at_ K) cc cdv fd := by
  obtain ⟨kp, c2⟩ := ba c
  unfold fnV at e
  unfold supB at s
  cases q : K.lookup (d.at_ K) with
  | none =>
    rw [q] at c2
    cases c2
  | some o =>
    obtain ⟨oc, od, dt, osl⟩ := o
    rw [q] at c2 e s
    cases dt with
    | func fd =>
      obtain ⟨n1, n2, n3, n4, n5, n6, n7, n8, n9, n10, n11, n12, n13, n14, n15⟩ := fd
      have e2 : (some (n1, n2, n3, n4, n5, n6, n7.map (·.1), n15) : FV) = some (d.name, d.qual, d.params, .stmts d.body, d.scope, mainGlobals, d.cl, builtinsNs) := e
      simp only [Option.some.injEq, Prod.mk.injEq] at e2
      obtain ⟨h1, h2, h3, h4, h5, h6, h7, h8⟩ := e2
      have c3 : (PySem.W.codeIn K n13 d.qual && (dflB K n8 (d.dfl K) && kwdB K n9 (d.kwd K))) = true := c2
      obtain ⟨k1, k2⟩ := ba c3
      obtain ⟨k3, k4⟩ := ba k2
      obtain ⟨s1, s2⟩ := ba s
      rw [hcl] at h7
      obtain ⟨cc, rfl⟩ : ∃ cc, n7 = clO cc := by
        cases n7 with
        | nil => cases h7
        | cons p r =>
          obtain ⟨x, cc⟩ := p
          cases r with
          | nil =>
            have : x = ("__class__" : Str) := by
              have := congrArg List.head? h7
              exact Option.some.inj this
            exact ⟨cc, by rw [this]⟩
          | cons p2 r2 => cases h7
      have hdV : n8 = .none := by
        rw [hd] at k3
        cases n8 with
        | none => rfl
        | _ => cases k3
      subst h1 h2 h3 h4 h5 h6 h8 hdV
      have hcell := cellB_ok (show cellB K D [(("__class__" : Str), cc)] = true from s1)
      have hfile := fileB_ok (show fileB P K n13 = true from s2)
      exact ⟨cc, n13, _, ⟨oc, od, n9, n10, n11, n12, n14, osl, rfl, q, kwdB_ok k4⟩, k1, hcell, hfile, kp⟩
    | _ => cases c2
/-! ### facts as Bools -/
def intB (K : Frag) (x : Str) (v : V) : Bool := match PySem.W.nsIn K mainGlobals x with
  | some (some u) => relB v u
  | _ => false
theorem intB_ok {K : Frag} {h : Heap} {mg : Str → Option Value} (X : K.In h) (G : h.Ns mainGlobals mg) {x : Str} {v : V} (c : intB K x v = true) : ∃ u, mg x = some u ∧ RelV v u := by
  unfold intB at c
  cases e : PySem.W.nsIn K mainGlobals x with
  | none => rw [e] at c; cases c
  | some o =>
    rw [e] at c
    cases o with
    | none => cases c
    | some u => exact ⟨u, PySem.W.mg_of X G e, relB_ok c⟩
def conB (K : Frag) (C : Addr) (f : Str) (v : V) : Bool := match PySem.W.findIn K (.ref C) f with
  | some (some u) => relB v u && (eqO (PySem.W.specialIn K u "__get__") (some none) && !PySem.W.copiedNames.contains f)
  | _ => false
theorem conB_ok {K : Frag} {C : Addr} {f : Str} {v : V} (c : conB K C f v = true) : ∃ u, Con K C f v u := by
  unfold conB at c
  cases e : PySem.W.findIn K (.ref C) f with
  | none => rw [e] at c; cases c
  | some o =>
    rw [e] at c
    cases o with
    | none => cases c
    | some u =>
      obtain ⟨c1, c2⟩ := ba (show (relB v u && (eqO (PySem.W.specialIn K u "__get__") (some none) && !PySem.W.copiedNames.contains f)) = true from c)
      obtain ⟨c3, c4⟩ := ba c2
      exact ⟨u, e, relB_ok c1, eqO_ok c3, by simpa using c4⟩
def cvalB (K : Frag) (C : Addr) (f : Str) (v : V) : Bool := PySem.W.readsIn K C (.type "type") && (eqO (PySem.W.specialIn K (.ref C) "__getattribute__") (some (some (.builtin "type.__getattribute__"))) && (match PySem.W.findCls K (.ref C) (.type "type") f with
  | some (.val u) => relB v u
  | _ => false))
theorem cvalB_ok {K : Frag} {C : Addr} {f : Str} {v : V} (c : cvalB K C f v = true) : ∃ mc u, ClX.CRead K C mc ∧ ClX.CVal K C mc f v u := by
  obtain ⟨c1, c2⟩ := ba c
  obtain ⟨c3, c4⟩ := ba c2
  cases e : PySem.W.findCls K (.ref C) (.type "type") f with
  | none => rw [e] at c4; cases c4
  | some o =>
    rw [e] at c4
    cases o with
    | val u => exact ⟨.type "type", u, ⟨c1, eqO_ok c3⟩, e, relB_ok c4⟩
    | _ => cases c4
def insB (K : Frag) (C : Addr) : Bool := eqO (PySem.W.findIn K (.ref C) "__class__") (some (some (.builtin "object.__class__"))) && (eqO (PySem.W.specialIn K (.builtin "object.__class__") "__get__") (some (some (.builtin "getset_descriptor.__get__"))) && (decide (PySem.W.takesIn K (.builtin "object.__class__") = some true) && decide (PySem.W.mroIn K C (.type "object") = some true)))
theorem insB_ok {K : Frag} {C : Addr} (c : insB K C = true) : PySem.W.findIn K (.ref C) "__class__" = some (some (.builtin "object.__class__")) ∧ PySem.W.specialIn K (.builtin "object.__class__") "__get__" = some (some (.builtin "getset_descriptor.__get__")) ∧ PySem.W.takesIn K (.builtin "object.__class__") = some true ∧ PySem.W.mroIn K C (.type "object") = some true := by
  obtain ⟨c1, c2⟩ := ba c
  obtain ⟨c3, c4⟩ := ba c2
  obtain ⟨c5, c6⟩ := ba c4
  exact ⟨eqO_ok c1, eqO_ok c3, of_decide_eq_true c5, of_decide_eq_true c6⟩
/-- the getter of C's property f -/
def gAd (K : Frag) (C : Addr) (f : Str) : Addr := match PySem.W.recIn K (ma K C f) "property" with
  | some (.ref g :: _) => g
  | _ => 0
def propB (K : Frag) (C : Addr) (f : Str) : Bool := eqO (PySem.W.findIn K (.ref C) f) (some (some (.ref (ma K C f)))) && (eqO (PySem.W.specialIn K (.ref (ma K C f)) "__get__") (some (some (.builtin "property.__get__"))) && (decide (PySem.W.takesIn K (.ref (ma K C f)) = some true) && (match PySem.W.recIn K (ma K C f) "property" with
  | some (.ref _ :: _) => true
  | _ => false)))
theorem propB_ok {K : Frag} {C : Addr} {f : Str} (c : propB K C f = true) : PropOf K C f (ma K C f) (gAd K C f) := by
  obtain ⟨c1, c2⟩ := ba c
  obtain ⟨c3, c4⟩ := ba c2
  obtain ⟨c5, c6⟩ := ba c4
  refine ⟨eqO_ok c1, eqO_ok c3, of_decide_eq_true c5, ?_⟩
  unfold gAd
  cases e : PySem.W.recIn K (ma K C f) "property" with
  | none => rw [e] at c6; cases c6
  | some l =>
    rw [e] at c6
    cases l with
    | nil => cases c6
    | cons v r =>
      cases v with
      | ref g => exact ⟨r, rfl⟩
      | _ => cases c6
def supmB (K : Frag) (C D g : Addr) (m : Str) : Bool := decide (PySem.W.mroIn K C (.ref D) = some true) && ((PySem.W.clsIn K D).isSome && (eqO (PySem.W.ks_superIn K C D m) (some (some (.ref g))) && (decide (PySem.W.typeIn K (.ref g) = some (.type "function")) && (PySem.W.fnIn K g && eqO (PySem.W.nsIn K cStatics "thirdparty.any") (some none)))))
theorem supmB_ok {K : Frag} {C D g : Addr} {m : Str} (c : supmB K C D g m = true) : SupM K C D g m := by
  obtain ⟨c1, c2⟩ := ba c
  obtain ⟨c3, c4⟩ := ba c2
  obtain ⟨c5, c6⟩ := ba c4
  obtain ⟨c7, c8⟩ := ba c6
  obtain ⟨c9, c10⟩ := ba c8
  exact ⟨of_decide_eq_true c1, c3, eqO_ok c5, of_decide_eq_true c7, c9, eqO_ok c10⟩
/-! ### the Hook -/
/-- what the names of the top reach in n steps; no address is looked for twice in a list, doubles stay -/
def rfR (g : Addr → Option Obj) (a : Addr) : List Addr := match g a with
  | some o => He.refsD o
  | none => []
def levR (g : Addr → Option Obj) (l : List Addr) : Nat → List Addr
  | 0 => l
  | n + 1 => l ++ levR g (l.flatMap (rfR g)) n
def asR (xs : List Str) (n : Nat) (g : Addr → Option Obj) : List Addr := mainGlobals :: cStatics :: levR g (xs.map (ga (frG g [mainGlobals]))) n
abbrev AlR : Type := Bool × List FV
def obsR (fs : List (Frag → Bool)) (fn : List DR) (K : Frag) : AlR := ((fs.all fun f => f K) && fn.all fun d => d.ok K, fn.map fun d => fnV K (d.at_ K))
def valR (fn : List DR) : AlR := (true, fn.map DR.val)
def SaysR (fs : List (Frag → Bool)) (fn : List DR) (K : Frag) : Prop := obsR fs fn K = valR fn
def obsRG (as : (Addr → Option Obj) → List Addr) (fs : List (Frag → Bool)) (fn : List DR) (g : Addr → Option Obj) : AlR := obsR fs fn (frG g (as g))
def hookR (as : (Addr → Option Obj) → List Addr) (fs : List (Frag → Bool)) (fn : List DR) : PySem.W.Hook where
  α := AlR
  obs := fun s => obsRG as fs fn s.heap.get?
  val := fun _ => valR fn
  says := fun _ h => ∃ K : Frag, K.In h ∧ SaysR fs fn K
  of := fun _ _ e => ⟨_, frG_in, e⟩
  keeps := fun _ _ _ ⟨K, hK, c⟩ k => ⟨K, PySem.W.Frag.In.keeps hK k, c⟩
theorem obsRG_eq {as : (Addr → Option Obj) → List Addr} {fs : List (Frag → Bool)} {fn : List DR} {g : Addr → Option Obj} {s : Shared} (h : ∀ a, g a = s.heap.get? a) : obsRG as fs fn g = (hookR as fs fn).obs s := by
  have e : g = s.heap.get? := funext h
  rw [e] <;> rfl
section
variable {fs : List (Frag → Bool)} {fn : List DR} {K : Frag}
theorem SaysR.fact (c : SaysR fs fn K) (i : Nat) {f : Frag → Bool} (h : fs[i]? = some f) : f K = true := by
  have c1 := (ba (show ((fs.all fun f => f K) && fn.all fun d => d.ok K) = true from congrArg (fun z : AlR => z.1) c)).1
  exact List.all_eq_true.mp c1 f (List.mem_of_getElem? h)
theorem SaysR.fnv (c : SaysR fs fn K) (i : Nat) {d : DR} (h : fn[i]? = some d) : fnV K (d.at_ K) = d.val ∧ d.ok K = true := by
  have c2 := (ba (show ((fs.all fun f => f K) && fn.all fun d => d.ok K) = true from congrArg (fun z : AlR => z.1) c)).2
  have e : fn.map (fun d => fnV K (d.at_ K)) = fn.map DR.val := congrArg (fun z : AlR => z.2) c
  have e2 : (fn.map fun d => fnV K (d.at_ K))[i]? = (fn.map DR.val)[i]? := by rw [e]
  rw [List.getElem?_map, List.getElem?_map, h] at e2
  exact ⟨Option.some.inj e2, List.all_eq_true.mp c2 d (List.mem_of_getElem? h)⟩
theorem SaysR.def_ (c : SaysR fs fn K) (i : Nat) {d : DR} (h : fn[i]? = some d) (hcl : d.cl = []) : ∃ fd, FunD K d.name d.qual d.params d.body d.scope (d.dfl K) (d.kwd K) (d.at_ K) fd :=
  DR.funD hcl (c.fnv i h).1 (c.fnv i h).2
end
end Rd
end T_RdHook
section T_RdHead
set_option Elab.async false
set_option linter.all false
set_option maxRecDepth 100000
set_option maxHeartbeats 8000000
/-! The facts of k63's top, put together. -/
namespace Rd
open PySem PySem.Spec PyProof.Rows L2
open PySem.W (Frag)
open He (ga ma)
theorem FunD.kball {K : Frag} {x qual : Str} {params : Arguments} {body : List Stmt} {scope : Scope} {kws : List (Str × V)} {f : Addr} {fd : FuncData} {ps ks : List Str} {n : Nat} (F : FunD K x qual params body scope [] kws f fd)
    (h : ∀ (kV doc pm : Value) (an : Option Addr) (cdv ct : Value) (us ws : List Value), us.length = n → ws.length = ks.length → bindArgs (PySem.W.fnOf x qual params body scope .none kV doc pm an cdv ct) ⟨us, ks.zip ws⟩ = pure (ps.zip (us ++ ws))) : KBn K fd ps n ks (fun us ws => us ++ ws) (fun vs zs => vs ++ zs) := by
  obtain ⟨oc, od, dV, kV, doc, pm, an, cdv, ct, osl, rfl, lk, hcd, hD, hK⟩ := F.ex
  rcases hD with ⟨_, rfl⟩ | ⟨e, _⟩
  · exact kbn_all fun us ws h1 h2 => h kV doc pm an cdv ct us ws h1 h2
  · exact absurd rfl e
theorem FunS.kball {P : Program} {K : Frag} {x qual : Str} {params : Arguments} {body : List Stmt} {scope : Scope} {kws : List (Str × V)} {D f cc : Addr} {cdv : Value} {fd : FuncData} {ps ks : List Str} {n : Nat} (F : FunS P K x qual params body scope kws D f cc cdv fd)
    (h : ∀ (kV doc pm : Value) (an : Option Addr) (cdv ct : Value) (us ws : List Value), us.length = n → ws.length = ks.length → bindArgs (PySem.W.fnX x qual params body scope (clO cc) .none kV doc pm an cdv ct) ⟨us, ks.zip ws⟩ = pure (ps.zip (us ++ ws))) : KBn K fd ps n ks (fun us ws => us ++ ws) (fun vs zs => vs ++ zs) := by
  obtain ⟨oc, od, kV, doc, pm, an, ct, osl, rfl, lk, _⟩ := F.ex
  exact kbn_all fun us ws h1 h2 => h kV doc pm an cdv ct us ws h1 h2
theorem FunS.bindsN {P : Program} {K : Frag} {x qual : Str} {params : Arguments} {body : List Stmt} {scope : Scope} {kws : List (Str × V)} {D f cc : Addr} {cdv : Value} {fd : FuncData} {ps : List Str} (F : FunS P K x qual params body scope kws D f cc cdv fd)
    (h : ∀ (kV doc pm : Value) (an : Option Addr) (cdv ct : Value) (us : List Value), us.length = ps.length → bindArgs (PySem.W.fnX x qual params body scope (clO cc) .none kV doc pm an cdv ct) ⟨us, []⟩ = pure (ps.zip us)) : Binds K fd ps [] := by
  obtain ⟨oc, od, kV, doc, pm, an, ct, osl, rfl, lk, _⟩ := F.ex
  exact .all (h kV doc pm an cdv ct)
abbrev Pg : Program := PySem.Challenge.pw_rounddown_k63_whole_levels_add_up
abbrev aO (K : Frag) : Addr := ga K "Office"
abbrev aC (K : Frag) : Addr := ga K "CappedOffice"
abbrev aM (K : Frag) : Addr := ga K "Market"

def d_is_integer : DR := ⟨fun K => ga K "is_integer", "is_integer", "is_integer", defArgs s_is_integer, defBody s_is_integer, defScope s_is_integer, [], fun _ => [], fun _ => []⟩
def d_is_name : DR := ⟨fun K => ga K "is_name", "is_name", "is_name", defArgs s_is_name, defBody s_is_name, defScope s_is_name, [], fun _ => [], fun _ => []⟩
def d_is_list : DR := ⟨fun K => ga K "is_list", "is_list", "is_list", defArgs s_is_list, defBody s_is_list, defScope s_is_list, [], fun _ => [], fun _ => []⟩
def d_is_amount : DR := ⟨fun K => ga K "is_amount", "is_amount", "is_amount", defArgs s_is_amount, defBody s_is_amount, defScope s_is_amount, [], fun _ => [], fun _ => []⟩
def d_is_pair : DR := ⟨fun K => ga K "is_pair", "is_pair", "is_pair", defArgs s_is_pair, defBody s_is_pair, defScope s_is_pair, [], fun _ => [], fun _ => []⟩
def d_need_name : DR := ⟨fun K => ga K "need_name", "need_name", "need_name", defArgs s_need_name, defBody s_need_name, defScope s_need_name, [], fun _ => [], fun _ => []⟩
def d_need_integer : DR := ⟨fun K => ga K "need_integer", "need_integer", "need_integer", defArgs s_need_integer, defBody s_need_integer, defScope s_need_integer, [], fun _ => [], fun _ => []⟩
def d_need_currency : DR := ⟨fun K => ga K "need_currency", "need_currency", "need_currency", defArgs s_need_currency, defBody s_need_currency, defScope s_need_currency, [], fun _ => [], fun _ => []⟩
def d_need_holding : DR := ⟨fun K => ga K "need_holding", "need_holding", "need_holding", defArgs s_need_holding, defBody s_need_holding, defScope s_need_holding, [], fun _ => [], fun _ => []⟩
def d_first_level : DR := ⟨fun K => ga K "first_level", "first_level", "first_level", defArgs s_first_level, defBody s_first_level, defScope s_first_level, [], fun _ => [], fun _ => []⟩
def d_level_after : DR := ⟨fun K => ga K "level_after", "level_after", "level_after", defArgs s_level_after, defBody s_level_after, defScope s_level_after, [], fun _ => [], fun _ => []⟩
def d_levels : DR := ⟨fun K => ga K "levels", "levels", "levels", defArgs s_levels, defBody s_levels, defScope s_levels, [], fun _ => [], fun _ => []⟩
def d_is_rate : DR := ⟨fun K => ga K "is_rate", "is_rate", "is_rate", defArgs s_is_rate, defBody s_is_rate, defScope s_is_rate, [], fun _ => [], fun _ => []⟩
def d_need_currencies : DR := ⟨fun K => ga K "need_currencies", "need_currencies", "need_currencies", defArgs s_need_currencies, defBody s_need_currencies, defScope s_need_currencies, [], fun _ => [], fun _ => []⟩
def d_need_ends : DR := ⟨fun K => ga K "need_ends", "need_ends", "need_ends", defArgs s_need_ends, defBody s_need_ends, defScope s_need_ends, [], fun _ => [], fun _ => []⟩
def d_need_offices : DR := ⟨fun K => ga K "need_offices", "need_offices", "need_offices", defArgs s_need_offices, defBody s_need_offices, defScope s_need_offices, [], fun _ => [], fun _ => []⟩
def d_law_pen : DR := ⟨fun K => ga K "_law_pen", "_law_pen", "_law_pen", defArgs s_law_pen, defBody s_law_pen, defScope s_law_pen, [], fun _ => [], fun _ => []⟩
def d_law_draw : DR := ⟨fun K => ga K "_law_draw", "_law_draw", "_law_draw", defArgs s_law_draw, defBody s_law_draw, defScope s_law_draw, [], fun _ => [], fun _ => []⟩
def d_law_pick : DR := ⟨fun K => ga K "_law_pick", "_law_pick", "_law_pick", defArgs s_law_pick, defBody s_law_pick, defScope s_law_pick, [], fun _ => [], fun _ => []⟩
def d_law_shuffled : DR := ⟨fun K => ga K "_law_shuffled", "_law_shuffled", "_law_shuffled", defArgs s_law_shuffled, defBody s_law_shuffled, defScope s_law_shuffled, [], fun _ => [], fun _ => []⟩
def d_law_names : DR := ⟨fun K => ga K "_law_names", "_law_names", "_law_names", defArgs s_law_names, defBody s_law_names, defScope s_law_names, [], fun _ => [], fun _ => []⟩
def d_law_office : DR := ⟨fun K => ga K "_law_office", "_law_office", "_law_office", defArgs s_law_office, defBody s_law_office, defScope s_law_office, [], fun _ => [], fun _ => []⟩
def d_law_ring : DR := ⟨fun K => ga K "_law_ring", "_law_ring", "_law_ring", defArgs s_law_ring, defBody s_law_ring, defScope s_law_ring, [], fun _ => [], fun _ => []⟩
def d_law_raw : DR := ⟨fun K => ga K "_law_raw", "_law_raw", "_law_raw", defArgs s_law_raw, defBody s_law_raw, defScope s_law_raw, [], fun _ => [], fun _ => []⟩
def d_law_one : DR := ⟨fun K => ga K "_law_one", "_law_one", "_law_one", defArgs s_law_one, defBody s_law_one, defScope s_law_one, [], fun _ => [], fun _ => []⟩
def d_law_made : DR := ⟨fun K => ga K "_law_made", "_law_made", "_law_made", defArgs s_law_made, defBody s_law_made, defScope s_law_made, [], fun _ => [], fun _ => []⟩
def d_law_at : DR := ⟨fun K => ga K "_law_at", "_law_at", "_law_at", defArgs s_law_at, defBody s_law_at, defScope s_law_at, [], fun _ => [], fun _ => []⟩
def d_law : DR := ⟨fun K => ga K "law", "law", "law", defArgs s_law, defBody s_law, defScope s_law, [], fun _ => [], fun _ => []⟩
def d_off_init : DR := ⟨fun K => ma K (aO K) "__init__", "__init__", "Office.__init__", defArgs s_Office_init, defBody s_Office_init, defScope s_Office_init, [], fun _ => [], fun _ => [("fee", .int 0), ("least", .int 0)]⟩
def d_off_result : DR := ⟨fun K => ma K (aO K) "result", "result", "Office.result", defArgs s_Office_result, defBody s_Office_result, defScope s_Office_result, [], fun _ => [], fun _ => []⟩
def d_off_source : DR := ⟨fun K => gAd K (aO K) "source", "source", "Office.source", defArgs s_Office_source, defBody s_Office_source, defScope s_Office_source, [], fun _ => [], fun _ => []⟩
def d_off_goal : DR := ⟨fun K => gAd K (aO K) "goal", "goal", "Office.goal", defArgs s_Office_goal, defBody s_Office_goal, defScope s_Office_goal, [], fun _ => [], fun _ => []⟩
def d_cap_init : DR := ⟨fun K => ma K (aC K) "__init__", "__init__", "CappedOffice.__init__", defArgs s_Cap_init, defBody s_Cap_init, defScope s_Cap_init, ["__class__"], fun _ => [], fun _ => [("fee", .int 0), ("least", .int 0)]⟩
def d_cap_result : DR := ⟨fun K => ma K (aC K) "result", "result", "CappedOffice.result", defArgs s_Cap_result, defBody s_Cap_result, defScope s_Cap_result, ["__class__"], fun _ => [], fun _ => []⟩
def d_mkt_init : DR := ⟨fun K => ma K (aM K) "__init__", "__init__", "Market.__init__", defArgs s_Market_init, defBody s_Market_init, defScope s_Market_init, [], fun K => [.ref (He.dflAt ("Market", some "__init__") 0 K)], fun _ => []⟩
def d_mkt_currencies : DR := ⟨fun K => gAd K (aM K) "currencies", "currencies", "Market.currencies", defArgs s_Market_currencies, defBody s_Market_currencies, defScope s_Market_currencies, [], fun _ => [], fun _ => []⟩
def d_mkt_offices : DR := ⟨fun K => gAd K (aM K) "offices", "offices", "Market.offices", defArgs s_Market_offices, defBody s_Market_offices, defScope s_Market_offices, [], fun _ => [], fun _ => []⟩
def fn : List DR := [d_is_integer, d_is_name, d_is_list, d_is_amount, d_is_pair, d_need_name, d_need_integer, d_need_currency, d_need_holding, d_first_level, d_level_after, d_levels, d_is_rate, d_need_currencies, d_need_ends, d_need_offices, d_law_pen, d_law_draw, d_law_pick, d_law_shuffled, d_law_names, d_law_office, d_law_ring, d_law_raw, d_law_one, d_law_made, d_law_at, d_law, d_off_init, d_off_result, d_off_source, d_off_goal, d_cap_init, d_cap_result, d_mkt_init, d_mkt_currencies, d_mkt_offices]
def fs : List (Frag → Bool) := [fun K => (He.Fa.glo "is_integer").ok K,
  fun K => (He.Fa.glo "is_name").ok K,
  fun K => (He.Fa.glo "is_list").ok K,
  fun K => (He.Fa.glo "is_amount").ok K,
  fun K => (He.Fa.glo "is_pair").ok K,
  fun K => (He.Fa.glo "need_name").ok K,
  fun K => (He.Fa.glo "need_integer").ok K,
  fun K => (He.Fa.glo "need_currency").ok K,
  fun K => (He.Fa.glo "need_holding").ok K,
  fun K => (He.Fa.glo "first_level").ok K,
  fun K => (He.Fa.glo "level_after").ok K,
  fun K => (He.Fa.glo "levels").ok K,
  fun K => (He.Fa.glo "is_rate").ok K,
  fun K => (He.Fa.glo "need_currencies").ok K,
  fun K => (He.Fa.glo "need_ends").ok K,
  fun K => (He.Fa.glo "need_offices").ok K,
  fun K => (He.Fa.glo "_law_pen").ok K,
  fun K => (He.Fa.glo "_law_draw").ok K,
  fun K => (He.Fa.glo "_law_pick").ok K,
  fun K => (He.Fa.glo "_law_shuffled").ok K,
  fun K => (He.Fa.glo "_law_names").ok K,
  fun K => (He.Fa.glo "_law_office").ok K,
  fun K => (He.Fa.glo "_law_ring").ok K,
  fun K => (He.Fa.glo "_law_raw").ok K,
  fun K => (He.Fa.glo "_law_one").ok K,
  fun K => (He.Fa.glo "_law_made").ok K,
  fun K => (He.Fa.glo "_law_at").ok K,
  fun K => (He.Fa.glo "law").ok K,
  fun K => (He.Fa.glo "Office").ok K,
  fun K => (He.Fa.glo "CappedOffice").ok K,
  fun K => (He.Fa.glo "Market").ok K,
  fun K => (He.Fa.free "isinstance").ok K,
  fun K => (He.Fa.free "int").ok K,
  fun K => (He.Fa.free "str").ok K,
  fun K => (He.Fa.free "bool").ok K,
  fun K => (He.Fa.free "len").ok K,
  fun K => (He.Fa.free "all").ok K,
  fun K => (He.Fa.free "list").ok K,
  fun K => (He.Fa.free "tuple").ok K,
  fun K => (He.Fa.free "dict").ok K,
  fun K => (He.Fa.free "sorted").ok K,
  fun K => (He.Fa.free "range").ok K,
  fun K => (He.Fa.free "max").ok K,
  fun K => (He.Fa.free "min").ok K,
  fun K => (He.Fa.free "abs").ok K,
  fun K => (He.Fa.free "zip").ok K,
  fun K => (He.Fa.free "enumerate").ok K,
  fun K => (He.Fa.free "super").ok K,
  fun K => intB K "COINS" (.int (10 ^ 30)),
  fun K => intB K "LETTERS" (.int 8),
  fun K => intB K "ALPHABET" (.str "abcdefghijklmnopqrstuvwxyz"),
  fun K => intB K "NEVER" (.int (-1)),
  fun K => decide (aO K ≠ aC K),
  fun K => (He.Fa.cls "Office").ok K,
  fun K => (He.Fa.cls "CappedOffice").ok K,
  fun K => (He.Fa.cls "Market").ok K,
  fun K => (["name", "own_ends", "own_rate", "own_fee", "own_least"] : List Str).all fun x => (He.Fa.noat "Office" x).ok K,
  fun K => (["name", "own_ends", "own_rate", "own_fee", "own_least", "own_most"] : List Str).all fun x => (He.Fa.noat "CappedOffice" x).ok K,
  fun K => (["own_currencies", "own_offices", "by_name"] : List Str).all fun x => (He.Fa.noat "Market" x).ok K,
  fun K => conB K (aO K) "FEE" (.int 20),
  fun K => conB K (aO K) "LEAST" (.int 1000),
  fun K => conB K (aC K) "FEE" (.int 20),
  fun K => conB K (aC K) "LEAST" (.int 1000),
  fun K => conB K (aC K) "MOST" (.int 1000000),
  fun K => cvalB K (aO K) "RATE" (.int 9),
  fun K => cvalB K (aM K) "CURRENCIES" (.int 4),
  fun K => cvalB K (aM K) "OFFICES" (.int 20),
  fun K => insB K (aO K),
  fun K => insB K (aC K),
  fun K => decide (PySem.W.kitOne K (.ref (aO K)) (.ref (aO K)) = some true),
  fun K => decide (PySem.W.kitOne K (.ref (aC K)) (.ref (aO K)) = some true),
  fun K => (He.Fa.mkr "Office").ok K,
  fun K => (He.Fa.mkr "CappedOffice").ok K,
  fun K => (He.Fa.mkr "Market").ok K,
  fun K => (He.Fa.meth "Office" "result").ok K,
  fun K => (He.Fa.meth "CappedOffice" "result").ok K,
  fun K => propB K (aO K) "source",
  fun K => propB K (aO K) "goal",
  fun K => propB K (aC K) "source",
  fun K => propB K (aC K) "goal",
  fun K => decide (gAd K (aC K) "source" = gAd K (aO K) "source"),
  fun K => decide (gAd K (aC K) "goal" = gAd K (aO K) "goal"),
  fun K => propB K (aM K) "currencies",
  fun K => propB K (aM K) "offices",
  fun K => supmB K (aC K) (aC K) (ma K (aO K) "__init__") "__init__",
  fun K => supB Pg K (ma K (aC K) "__init__") (aC K),
  fun K => supmB K (aC K) (aC K) (ma K (aO K) "result") "result",
  fun K => supB Pg K (ma K (aC K) "result") (aC K)]
section
variable {w : World} {K : Frag} {h : Heap} {mg : Str → Option Value}
theorem tx (X : K.In h) (G : h.Ns mainGlobals mg) (c : SaysR fs fn K) : Tx K mg (aO K) (aC K) (aM K) where
  b_isinstance := He.free_ok X G (c.fact 31 rfl)
  b_int := He.free_ok X G (c.fact 32 rfl)
  b_str := He.free_ok X G (c.fact 33 rfl)
  b_bool := He.free_ok X G (c.fact 34 rfl)
  b_len := He.free_ok X G (c.fact 35 rfl)
  b_all := He.free_ok X G (c.fact 36 rfl)
  b_list := He.free_ok X G (c.fact 37 rfl)
  b_tuple := He.free_ok X G (c.fact 38 rfl)
  b_dict := He.free_ok X G (c.fact 39 rfl)
  b_sorted := He.free_ok X G (c.fact 40 rfl)
  b_range := He.free_ok X G (c.fact 41 rfl)
  b_max := He.free_ok X G (c.fact 42 rfl)
  b_min := He.free_ok X G (c.fact 43 rfl)
  b_abs := He.free_ok X G (c.fact 44 rfl)
  b_zip := He.free_ok X G (c.fact 45 rfl)
  b_enumerate := He.free_ok X G (c.fact 46 rfl)
  b_super := He.free_ok X G (c.fact 47 rfl)
  g_COINS := intB_ok X G (c.fact 48 rfl)
  g_LETTERS := intB_ok X G (c.fact 49 rfl)
  g_ALPHABET := intB_ok X G (c.fact 50 rfl)
  g_NEVER := intB_ok X G (c.fact 51 rfl)
  m_Office := He.glo_ok X G (c.fact 28 rfl)
  m_CappedOffice := He.glo_ok X G (c.fact 29 rfl)
  m_Market := He.glo_ok X G (c.fact 30 rfl)
  ne := of_decide_eq_true (c.fact 52 rfl)
  clO := He.cls_ok (c.fact 53 rfl)
  clC := He.cls_ok (c.fact 54 rfl)
  clM := He.cls_ok (c.fact 55 rfl)
  nO := fun x hx => He.noat_ok (List.all_eq_true.mp (c.fact 56 rfl) x hx)
  nC := fun x hx => He.noat_ok (List.all_eq_true.mp (c.fact 57 rfl) x hx)
  nM := fun x hx => He.noat_ok (List.all_eq_true.mp (c.fact 58 rfl) x hx)
  oFEE := conB_ok (c.fact 59 rfl)
  oLEAST := conB_ok (c.fact 60 rfl)
  cFEE := conB_ok (c.fact 61 rfl)
  cLEAST := conB_ok (c.fact 62 rfl)
  cMOST := conB_ok (c.fact 63 rfl)
  oRATE := cvalB_ok (c.fact 64 rfl)
  mCUR := cvalB_ok (c.fact 65 rfl)
  mOFF := cvalB_ok (c.fact 66 rfl)
  iO := let ⟨h1, h2, h3, h4⟩ := insB_ok (c.fact 67 rfl); ⟨He.cls_ok (c.fact 53 rfl), h1, h2, h3, h4, of_decide_eq_true (c.fact 69 rfl)⟩
  isC := fun ha => let ⟨h1, h2, h3, h4⟩ := insB_ok (c.fact 68 rfl); ⟨_, .base (TyOf.ins ha (He.cls_ok (c.fact 54 rfl)) h1 h2 h3 h4), of_decide_eq_true (c.fact 70 rfl)⟩
abbrev St (K : Frag) (h : Heap) (mg : Str → Option Value) : Prop := K.In h ∧ h.Ns mainGlobals mg ∧ SaysR fs fn K
theorem htop : (Pg.main.scope.names.lookup ("super" : Str)).isSome = false := by decide +kernel
theorem c_Fis_integer (S : St K h mg) : ∃ fd, FD K "is_integer" s_is_integer (ga K "is_integer") fd := S.2.2.def_ 0 (d := d_is_integer) rfl rfl
theorem c_is_integer (S : St K h mg) (base : Heap) : CalK Pg w K mg base 1 "is_integer" 1 ["least", "most"] spIsInt := by
  obtain ⟨fd, F⟩ := c_Fis_integer S
  exact ⟨_, _, _, ok_is_integer F (tx S.1 S.2.1 S.2.2), He.glo_ok S.1 S.2.1 (S.2.2.fact 0 rfl), F.kp, FunD.kball (ps := ["value", "least", "most"]) (ks := ["least", "most"]) (n := 1) F (fun _ _ _ _ _ _ us ws h1 h2 => match us, h1, ws, h2 with | [_], _, [_, _], _ => rfl)⟩
theorem c_Fneed_integer (S : St K h mg) : ∃ fd, FD K "need_integer" s_need_integer (ga K "need_integer") fd := S.2.2.def_ 6 (d := d_need_integer) rfl rfl
theorem c_need_integer (S : St K h mg) (base : Heap) : CalK Pg w K mg base 2 "need_integer" 1 ["least", "most"] spNeedInt := by
  obtain ⟨fd, F⟩ := c_Fneed_integer S
  exact ⟨_, _, _, ok_need_integer F (tx S.1 S.2.1 S.2.2) (c_is_integer S base), He.glo_ok S.1 S.2.1 (S.2.2.fact 6 rfl), F.kp, FunD.kball (ps := ["value", "least", "most"]) (ks := ["least", "most"]) (n := 1) F (fun _ _ _ _ _ _ us ws h1 h2 => match us, h1, ws, h2 with | [_], _, [_, _], _ => rfl)⟩
theorem c_Fis_name (S : St K h mg) : ∃ fd, FD K "is_name" s_is_name (ga K "is_name") fd := S.2.2.def_ 1 (d := d_is_name) rfl rfl
theorem c_is_name (S : St K h mg) (base : Heap) : C8.Cal Pg w K mg base 1 "is_name" spIsName [] := by
  obtain ⟨fd, F⟩ := c_Fis_name S
  exact ⟨_, _, _, [], ok_is_name F (tx S.1 S.2.1 S.2.2), He.glo_ok S.1 S.2.1 (S.2.2.fact 1 rfl), F.kp, FunD.bindsN (ps := ["value"]) F (fun _ _ _ _ _ _ us hl => match us, hl with | [_], _ => rfl), .nil⟩
theorem c_Fis_list (S : St K h mg) : ∃ fd, FD K "is_list" s_is_list (ga K "is_list") fd := S.2.2.def_ 2 (d := d_is_list) rfl rfl
theorem c_is_list (S : St K h mg) (base : Heap) : C8.Cal Pg w K mg base 1 "is_list" spIsList [] := by
  obtain ⟨fd, F⟩ := c_Fis_list S
  exact ⟨_, _, _, [], ok_is_list F (tx S.1 S.2.1 S.2.2), He.glo_ok S.1 S.2.1 (S.2.2.fact 2 rfl), F.kp, FunD.bindsN (ps := ["value"]) F (fun _ _ _ _ _ _ us hl => match us, hl with | [_], _ => rfl), .nil⟩
theorem c_Fis_amount (S : St K h mg) : ∃ fd, FD K "is_amount" s_is_amount (ga K "is_amount") fd := S.2.2.def_ 3 (d := d_is_amount) rfl rfl
theorem c_is_amount (S : St K h mg) (base : Heap) : C8.Cal Pg w K mg base 2 "is_amount" spIsAmount [] := by
  obtain ⟨fd, F⟩ := c_Fis_amount S
  exact ⟨_, _, _, [], ok_is_amount F (tx S.1 S.2.1 S.2.2) (c_is_integer S base), He.glo_ok S.1 S.2.1 (S.2.2.fact 3 rfl), F.kp, FunD.bindsN (ps := ["value"]) F (fun _ _ _ _ _ _ us hl => match us, hl with | [_], _ => rfl), .nil⟩
theorem c_Fis_pair (S : St K h mg) : ∃ fd, FD K "is_pair" s_is_pair (ga K "is_pair") fd := S.2.2.def_ 4 (d := d_is_pair) rfl rfl
theorem c_is_pair (S : St K h mg) (base : Heap) : C8.Cal Pg w K mg base 3 "is_pair" spIsPair [] := by
  obtain ⟨fd, F⟩ := c_Fis_pair S
  exact ⟨_, _, _, [], ok_is_pair F (tx S.1 S.2.1 S.2.2) (c_is_name S base) (c_is_amount S base), He.glo_ok S.1 S.2.1 (S.2.2.fact 4 rfl), F.kp, FunD.bindsN (ps := ["value"]) F (fun _ _ _ _ _ _ us hl => match us, hl with | [_], _ => rfl), .nil⟩
theorem c_Fneed_name (S : St K h mg) : ∃ fd, FD K "need_name" s_need_name (ga K "need_name") fd := S.2.2.def_ 5 (d := d_need_name) rfl rfl
theorem c_need_name (S : St K h mg) (base : Heap) : C8.Cal Pg w K mg base 2 "need_name" spNeedName [] := by
  obtain ⟨fd, F⟩ := c_Fneed_name S
  exact ⟨_, _, _, [], ok_need_name F (tx S.1 S.2.1 S.2.2) (c_is_name S base), He.glo_ok S.1 S.2.1 (S.2.2.fact 5 rfl), F.kp, FunD.bindsN (ps := ["value"]) F (fun _ _ _ _ _ _ us hl => match us, hl with | [_], _ => rfl), .nil⟩
theorem c_Fis_rate (S : St K h mg) : ∃ fd, FD K "is_rate" s_is_rate (ga K "is_rate") fd := S.2.2.def_ 12 (d := d_is_rate) rfl rfl
theorem c_is_rate (S : St K h mg) (base : Heap) : C8.Cal Pg w K mg base 2 "is_rate" spIsRate [] := by
  obtain ⟨fd, F⟩ := c_Fis_rate S
  exact ⟨_, _, _, [], ok_is_rate F (tx S.1 S.2.1 S.2.2) (c_is_integer S base), He.glo_ok S.1 S.2.1 (S.2.2.fact 12 rfl), F.kp, FunD.bindsN (ps := ["value"]) F (fun _ _ _ _ _ _ us hl => match us, hl with | [_], _ => rfl), .nil⟩
theorem c_Foff_source (S : St K h mg) : ∃ fd, FC K "source" "Office.source" s_Office_source (gAd K (aO K) "source") fd := S.2.2.def_ 30 (d := d_off_source) rfl rfl
theorem c_source (S : St K h mg) (base : Heap) : OffPr Pg w K mg base (aO K) (aC K) 1 "source" (fun o => .str o.src) := by
  obtain ⟨fd, F⟩ := c_Foff_source S
  have ok := ok_source (P := Pg) (w := w) (base := base) F (tx S.1 S.2.1 S.2.2)
  have b := FunD.bindsN (ps := ["self"]) F (fun _ _ _ _ _ _ us hl => match us, hl with | [_], _ => rfl)
  refine ⟨⟨_, _, _, _, propB_ok (S.2.2.fact 76 rfl), ok, b⟩, ⟨_, _, _, _, propB_ok (S.2.2.fact 78 rfl), ?_, b⟩⟩
  rw [of_decide_eq_true (S.2.2.fact 80 rfl)]
  exact ok
theorem c_Foff_goal (S : St K h mg) : ∃ fd, FC K "goal" "Office.goal" s_Office_goal (gAd K (aO K) "goal") fd := S.2.2.def_ 31 (d := d_off_goal) rfl rfl
theorem c_goal (S : St K h mg) (base : Heap) : OffPr Pg w K mg base (aO K) (aC K) 1 "goal" (fun o => .str o.goal) := by
  obtain ⟨fd, F⟩ := c_Foff_goal S
  have ok := ok_goal (P := Pg) (w := w) (base := base) F (tx S.1 S.2.1 S.2.2)
  have b := FunD.bindsN (ps := ["self"]) F (fun _ _ _ _ _ _ us hl => match us, hl with | [_], _ => rfl)
  refine ⟨⟨_, _, _, _, propB_ok (S.2.2.fact 77 rfl), ok, b⟩, ⟨_, _, _, _, propB_ok (S.2.2.fact 79 rfl), ?_, b⟩⟩
  rw [of_decide_eq_true (S.2.2.fact 81 rfl)]
  exact ok
theorem c_Foff_result (S : St K h mg) : ∃ fd, FC K "result" "Office.result" s_Office_result (ma K (aO K) "result") fd := S.2.2.def_ 29 (d := d_off_result) rfl rfl
theorem c_kB (S : St K h mg) (base : Heap) : ∃ fd, FnOk Pg w K mg base CX0 1 (ma K (aO K) "result") fd ["self", "coins"] (spBase (aO K) (aC K)) ∧ KBn K fd ["self", "coins"] 2 [] (fun us ws => us ++ ws) (fun vs zs => vs ++ zs) ∧ Binds K fd ["self", "coins"] [] := by
  obtain ⟨fd, F⟩ := c_Foff_result S
  exact ⟨fd, ok_base F (tx S.1 S.2.1 S.2.2), FunD.kball (ps := ["self", "coins"]) (ks := []) (n := 2) F (fun _ _ _ _ _ _ us ws h1 h2 => match us, h1, ws, h2 with | [_, _], _, [], _ => rfl), FunD.bindsN (ps := ["self", "coins"]) F (fun _ _ _ _ _ _ us hl => match us, hl with | [_, _], _ => rfl)⟩
theorem c_Fcap_result (S : St K h mg) : ∃ cc cdv fd, FunS Pg K "result" "CappedOffice.result" (defArgs s_Cap_result) (defBody s_Cap_result) (defScope s_Cap_result) [] (aC K) (ma K (aC K) "result") cc cdv fd := DR.funS (P := Pg) (d := d_cap_result) (D := aC K) rfl rfl (S.2.2.fnv 33 rfl).1 (S.2.2.fnv 33 rfl).2 (S.2.2.fact 87 rfl)
theorem c_result (S : St K h mg) (base : Heap) : ResB Pg w K mg base (aO K) (aC K) 2 := by
  obtain ⟨fdO, okB, kB, bB⟩ := c_kB (w := w) S base
  obtain ⟨cc, cdv, fd, F⟩ := c_Fcap_result S
  have okC := ok_cap_result (w := w) (base := base) F (tx S.1 S.2.1 S.2.2) (supmB_ok (S.2.2.fact 86 rfl)) okB kB htop
  exact ⟨⟨_, _, _, He.meth_ok (S.2.2.fact 74 rfl), okB.mono (by decide), bB⟩, ⟨_, _, _, He.meth_ok (S.2.2.fact 75 rfl), okC, FunS.bindsN (ps := ["self", "coins"]) F (fun _ _ _ _ _ _ us hl => match us, hl with | [_, _], _ => rfl)⟩⟩
theorem c_Foff_init (S : St K h mg) : ∃ fd, FunD K "__init__" "Office.__init__" (defArgs s_Office_init) (defBody s_Office_init) (defScope s_Office_init) [] [("fee", .int 0), ("least", .int 0)] (ma K (aO K) "__init__") fd := S.2.2.def_ 28 (d := d_off_init) rfl rfl
theorem c_OI (S : St K h mg) (base : Heap) : ∃ fd, FnOk Pg w K mg base CX0 3 (ma K (aO K) "__init__") fd ["self", "name", "source", "goal", "rate", "fee", "least"] (spOffInit (aO K) (aC K)) ∧ KBn K fd ["self", "name", "source", "goal", "rate", "fee", "least"] 5 ["fee", "least"] (fun us ws => us ++ ws) (fun vs zs => vs ++ zs) := by
  obtain ⟨fd, F⟩ := c_Foff_init S
  exact ⟨fd, ok_off_init F (tx S.1 S.2.1 S.2.2) (c_need_integer S base) (c_need_name S base) (c_is_rate S base), FunD.kball (ps := ["self", "name", "source", "goal", "rate", "fee", "least"]) (ks := ["fee", "least"]) (n := 5) F (fun _ _ _ _ _ _ us ws h1 h2 => match us, h1, ws, h2 with | [_, _, _, _, _], _, [_, _], _ => rfl)⟩
theorem c_Office (S : St K h mg) (base : Heap) : MakK Pg w K mg base 3 "Office" (aO K) 4 ["fee", "least"] (spOffInit (aO K) (aC K)) := by
  obtain ⟨fd, okO, kO⟩ := c_OI (w := w) S base
  exact ⟨_, _, _, He.mkr_ok (S.2.2.fact 71 rfl), okO, He.glo_ok S.1 S.2.1 (S.2.2.fact 28 rfl), kO⟩
theorem c_Fcap_init (S : St K h mg) : ∃ cc cdv fd, FunS Pg K "__init__" "CappedOffice.__init__" (defArgs s_Cap_init) (defBody s_Cap_init) (defScope s_Cap_init) [("fee", .int 0), ("least", .int 0)] (aC K) (ma K (aC K) "__init__") cc cdv fd := DR.funS (P := Pg) (d := d_cap_init) (D := aC K) rfl rfl (S.2.2.fnv 32 rfl).1 (S.2.2.fnv 32 rfl).2 (S.2.2.fact 85 rfl)
theorem c_CappedOffice (S : St K h mg) (base : Heap) : MakK Pg w K mg base 4 "CappedOffice" (aC K) 4 ["most", "fee", "least"] (spCapInit (aC K)) := by
  obtain ⟨fdO, okO, kO⟩ := c_OI (w := w) S base
  obtain ⟨cc, cdv, fd, F⟩ := c_Fcap_init S
  have okC := ok_cap_init (w := w) (base := base) F (tx S.1 S.2.1 S.2.2) (supmB_ok (S.2.2.fact 84 rfl)) okO kO htop (c_need_integer S base)
  exact ⟨_, _, _, He.mkr_ok (S.2.2.fact 72 rfl), okC, He.glo_ok S.1 S.2.1 (S.2.2.fact 29 rfl), FunS.kball (ps := NCap_init) (ks := ["most", "fee", "least"]) (n := 5) F (fun _ _ _ _ _ _ us ws h1 h2 => match us, h1, ws, h2 with | [_, _, _, _, _], _, [_, _, _], _ => rfl)⟩
theorem c_Fneed_currencies (S : St K h mg) : ∃ fd, FD K "need_currencies" s_need_currencies (ga K "need_currencies") fd := S.2.2.def_ 13 (d := d_need_currencies) rfl rfl
theorem c_need_currencies (S : St K h mg) (base : Heap) : C8.Cal Pg w K mg base 3 "need_currencies" spNeedCurs [] := by
  obtain ⟨fd, F⟩ := c_Fneed_currencies S
  exact ⟨_, _, _, [], ok_need_currencies F (tx S.1 S.2.1 S.2.2) (c_is_list S base) (c_need_name S base), He.glo_ok S.1 S.2.1 (S.2.2.fact 13 rfl), F.kp, FunD.bindsN (ps := ["values"]) F (fun _ _ _ _ _ _ us hl => match us, hl with | [_], _ => rfl), .nil⟩
theorem c_Fneed_ends (S : St K h mg) : ∃ fd, FD K "need_ends" s_need_ends (ga K "need_ends") fd := S.2.2.def_ 14 (d := d_need_ends) rfl rfl
theorem c_need_ends (S : St K h mg) (base : Heap) : C8.Cal Pg w K mg base 3 "need_ends" (spNeedEnds (aO K) (aC K)) [] := by
  obtain ⟨fd, F⟩ := c_Fneed_ends S
  exact ⟨_, _, _, [], ok_need_ends (ks := 0) (kg := 0) F (tx S.1 S.2.1 S.2.2) (c_source S base) (c_goal S base), He.glo_ok S.1 S.2.1 (S.2.2.fact 14 rfl), F.kp, FunD.bindsN (ps := ["currencies", "office"]) F (fun _ _ _ _ _ _ us hl => match us, hl with | [_, _], _ => rfl), .nil⟩
theorem c_Fneed_offices (S : St K h mg) : ∃ fd, FD K "need_offices" s_need_offices (ga K "need_offices") fd := S.2.2.def_ 15 (d := d_need_offices) rfl rfl
theorem c_need_offices (S : St K h mg) (base : Heap) : C8.Cal Pg w K mg base 4 "need_offices" (spNeedOffs (aO K) (aC K)) [] := by
  obtain ⟨fd, F⟩ := c_Fneed_offices S
  exact ⟨_, _, _, [], ok_need_offices F (tx S.1 S.2.1 S.2.2) (c_is_list S base) (c_need_ends S base), He.glo_ok S.1 S.2.1 (S.2.2.fact 15 rfl), F.kp, FunD.bindsN (ps := ["currencies", "values"]) F (fun _ _ _ _ _ _ us hl => match us, hl with | [_, _], _ => rfl), .nil⟩
theorem c_Fmkt_init (S : St K h mg) : ∃ fd, FunD K "__init__" "Market.__init__" (defArgs s_Market_init) (defBody s_Market_init) (defScope s_Market_init) [.ref (He.dflAt ("Market", some "__init__") 0 K)] [] (ma K (aM K) "__init__") fd := S.2.2.def_ 34 (d := d_mkt_init) rfl rfl
theorem c_Market (S : St K h mg) (base : Heap) : C8.Mak Pg w K mg base 5 "Market" (aM K) (spMktInit (aO K) (aC K) (aM K)) [] := by
  obtain ⟨fd, F⟩ := c_Fmkt_init S
  obtain ⟨ds, v, b⟩ := FunD.binds1 (ps := ["self", "currencies", "offices"]) F 3 1 (by simp) (by rfl) (fun T kV doc pm an cdv ct us its h1 h2 => match us, h1, its, h2 with | [_, _, _], _, [_], _ => ⟨_, rfl, rfl⟩)
  exact ⟨_, _, _, _, He.mkr_ok (S.2.2.fact 73 rfl), ok_mkt_init F (tx S.1 S.2.1 S.2.2) (c_need_currencies S base) (c_need_offices S base), He.glo_ok S.1 S.2.1 (S.2.2.fact 30 rfl), b, v⟩
theorem c_Fmkt_currencies (S : St K h mg) : ∃ fd, FC K "currencies" "Market.currencies" s_Market_currencies (gAd K (aM K) "currencies") fd := S.2.2.def_ 35 (d := d_mkt_currencies) rfl rfl
theorem c_currencies (S : St K h mg) (base : Heap) : PrB Pg w K mg base 1 (aM K) "currencies" (getSp (aM K) "own_currencies") := by
  obtain ⟨fd, F⟩ := c_Fmkt_currencies S
  exact ⟨_, _, _, _, propB_ok (S.2.2.fact 82 rfl), ok_currencies F (tx S.1 S.2.1 S.2.2), FunD.bindsN (ps := ["self"]) F (fun _ _ _ _ _ _ us hl => match us, hl with | [_], _ => rfl)⟩
theorem c_Fmkt_offices (S : St K h mg) : ∃ fd, FC K "offices" "Market.offices" s_Market_offices (gAd K (aM K) "offices") fd := S.2.2.def_ 36 (d := d_mkt_offices) rfl rfl
theorem c_offices (S : St K h mg) (base : Heap) : PrB Pg w K mg base 1 (aM K) "offices" (getSp (aM K) "own_offices") := by
  obtain ⟨fd, F⟩ := c_Fmkt_offices S
  exact ⟨_, _, _, _, propB_ok (S.2.2.fact 83 rfl), ok_offices F (tx S.1 S.2.1 S.2.2), FunD.bindsN (ps := ["self"]) F (fun _ _ _ _ _ _ us hl => match us, hl with | [_], _ => rfl)⟩
theorem c_Fneed_currency (S : St K h mg) : ∃ fd, FD K "need_currency" s_need_currency (ga K "need_currency") fd := S.2.2.def_ 7 (d := d_need_currency) rfl rfl
theorem c_need_currency (S : St K h mg) (base : Heap) : C8.Cal Pg w K mg base 3 "need_currency" (spNeedCur (aO K) (aC K) (aM K)) [] := by
  obtain ⟨fd, F⟩ := c_Fneed_currency S
  exact ⟨_, _, _, [], ok_need_currency F (tx S.1 S.2.1 S.2.2) (c_currencies S base), He.glo_ok S.1 S.2.1 (S.2.2.fact 7 rfl), F.kp, FunD.bindsN (ps := ["market", "value"]) F (fun _ _ _ _ _ _ us hl => match us, hl with | [_, _], _ => rfl), .nil⟩
theorem c_Fneed_holding (S : St K h mg) : ∃ fd, FD K "need_holding" s_need_holding (ga K "need_holding") fd := S.2.2.def_ 8 (d := d_need_holding) rfl rfl
theorem c_need_holding (S : St K h mg) (base : Heap) : C8.Cal Pg w K mg base 4 "need_holding" (spNeedHold (aO K) (aC K) (aM K)) [] := by
  obtain ⟨fd, F⟩ := c_Fneed_holding S
  exact ⟨_, _, _, [], ok_need_holding F (tx S.1 S.2.1 S.2.2) (c_is_pair S base) (c_need_currency S base), He.glo_ok S.1 S.2.1 (S.2.2.fact 8 rfl), F.kp, FunD.bindsN (ps := ["market", "value"]) F (fun _ _ _ _ _ _ us hl => match us, hl with | [_, _], _ => rfl), .nil⟩
theorem c_Ffirst_level (S : St K h mg) : ∃ fd, FD K "first_level" s_first_level (ga K "first_level") fd := S.2.2.def_ 9 (d := d_first_level) rfl rfl
theorem c_first_level (S : St K h mg) (base : Heap) : C8.Cal Pg w K mg base 3 "first_level" (spFirst (aO K) (aC K) (aM K)) [] := by
  obtain ⟨fd, F⟩ := c_Ffirst_level S
  exact ⟨_, _, _, [], ok_first_level F (tx S.1 S.2.1 S.2.2) (c_currencies S base), He.glo_ok S.1 S.2.1 (S.2.2.fact 9 rfl), F.kp, FunD.bindsN (ps := ["market", "start"]) F (fun _ _ _ _ _ _ us hl => match us, hl with | [_, _], _ => rfl), .nil⟩
theorem c_Flevel_after (S : St K h mg) : ∃ fd, FD K "level_after" s_level_after (ga K "level_after") fd := S.2.2.def_ 10 (d := d_level_after) rfl rfl
theorem c_level_after (S : St K h mg) (base : Heap) : C8.Cal Pg w K mg base 3 "level_after" (spAfter (aO K) (aC K) (aM K)) [] := by
  obtain ⟨fd, F⟩ := c_Flevel_after S
  exact ⟨_, _, _, [], ok_level_after F (tx S.1 S.2.1 S.2.2) (c_offices S base) (c_source S base) (c_goal S base) (c_result S base), He.glo_ok S.1 S.2.1 (S.2.2.fact 10 rfl), F.kp, FunD.bindsN (ps := ["market", "level"]) F (fun _ _ _ _ _ _ us hl => match us, hl with | [_, _], _ => rfl), .nil⟩
theorem c_Flevels (S : St K h mg) : ∃ fd, FD K "levels" s_levels (ga K "levels") fd := S.2.2.def_ 11 (d := d_levels) rfl rfl
theorem c_Flaw_at (S : St K h mg) : ∃ fd, FD K "_law_at" s_law_at (ga K "_law_at") fd := S.2.2.def_ 26 (d := d_law_at) rfl rfl
theorem c_law_at (S : St K h mg) (base : Heap) : C8.Cal Pg w K mg base 7 "_law_at" (spAt (aO K) (aC K) (aM K)) [] := by
  obtain ⟨fdL, FL⟩ := c_Flevels S
  obtain ⟨fd, F⟩ := c_Flaw_at S
  have okLv := ok_levels (P := Pg) (w := w) (base := base) FL (tx S.1 S.2.1 S.2.2) (c_need_holding S base) (c_first_level S base) (c_level_after S base)
  exact ⟨_, _, _, [], ok_law_at F (tx S.1 S.2.1 S.2.2) okLv (FunD.bindsN (ps := ["market", "holding"]) FL (fun _ _ _ _ _ _ us hl => match us, hl with | [_, _], _ => rfl)) (He.glo_ok S.1 S.2.1 (S.2.2.fact 11 rfl)) FL.kp, He.glo_ok S.1 S.2.1 (S.2.2.fact 26 rfl), F.kp, FunD.bindsN (ps := ["_law_market", "_law_holding", "_law_many"]) F (fun _ _ _ _ _ _ us hl => match us, hl with | [_, _, _], _ => rfl), .nil⟩
theorem c_Flaw_pen (S : St K h mg) : ∃ fd, FD K "_law_pen" s_law_pen (ga K "_law_pen") fd := S.2.2.def_ 16 (d := d_law_pen) rfl rfl
theorem c_law_pen (S : St K h mg) (base : Heap) : C8.Cal Pg w K mg base 1 "_law_pen" (spPen K) [] := by
  obtain ⟨fd, F⟩ := c_Flaw_pen S
  exact ⟨_, _, _, [], ok_law_pen F (tx S.1 S.2.1 S.2.2), He.glo_ok S.1 S.2.1 (S.2.2.fact 16 rfl), F.kp, FunD.bindsN (ps := ["_law_script"]) F (fun _ _ _ _ _ _ us hl => match us, hl with | [_], _ => rfl), .nil⟩
theorem c_Flaw_draw (S : St K h mg) : ∃ fd, FD K "_law_draw" s_law_draw (ga K "_law_draw") fd := S.2.2.def_ 17 (d := d_law_draw) rfl rfl
theorem c_law_draw (S : St K h mg) (base : Heap) : C8.Cal Pg w K mg base 1 "_law_draw" spDraw [] := by
  obtain ⟨fd, F⟩ := c_Flaw_draw S
  exact ⟨_, _, _, [], ok_law_draw F (tx S.1 S.2.1 S.2.2), He.glo_ok S.1 S.2.1 (S.2.2.fact 17 rfl), F.kp, FunD.bindsN (ps := ["_law_pen_here", "_law_many"]) F (fun _ _ _ _ _ _ us hl => match us, hl with | [_, _], _ => rfl), .nil⟩
theorem c_Flaw_pick (S : St K h mg) : ∃ fd, FD K "_law_pick" s_law_pick (ga K "_law_pick") fd := S.2.2.def_ 18 (d := d_law_pick) rfl rfl
theorem c_law_pick (S : St K h mg) (base : Heap) : C8.Cal Pg w K mg base 2 "_law_pick" spPick [] := by
  obtain ⟨fd, F⟩ := c_Flaw_pick S
  exact ⟨_, _, _, [], ok_law_pick F (tx S.1 S.2.1 S.2.2) (c_law_draw S base), He.glo_ok S.1 S.2.1 (S.2.2.fact 18 rfl), F.kp, FunD.bindsN (ps := ["_law_pen_here", "_law_some"]) F (fun _ _ _ _ _ _ us hl => match us, hl with | [_, _], _ => rfl), .nil⟩
theorem c_Flaw_shuffled (S : St K h mg) : ∃ fd, FD K "_law_shuffled" s_law_shuffled (ga K "_law_shuffled") fd := S.2.2.def_ 19 (d := d_law_shuffled) rfl rfl
theorem c_law_shuffled (S : St K h mg) (base : Heap) : C8.Cal Pg w K mg base 2 "_law_shuffled" spShuf [] := by
  obtain ⟨fd, F⟩ := c_Flaw_shuffled S
  exact ⟨_, _, _, [], ok_law_shuffled F (tx S.1 S.2.1 S.2.2) (c_law_draw S base), He.glo_ok S.1 S.2.1 (S.2.2.fact 19 rfl), F.kp, FunD.bindsN (ps := ["_law_pen_here", "_law_some"]) F (fun _ _ _ _ _ _ us hl => match us, hl with | [_, _], _ => rfl), .nil⟩
theorem c_Flaw_names (S : St K h mg) : ∃ fd, FD K "_law_names" s_law_names (ga K "_law_names") fd := S.2.2.def_ 20 (d := d_law_names) rfl rfl
theorem c_law_names (S : St K h mg) (base : Heap) : C8.Cal Pg w K mg base 3 "_law_names" spNames [] := by
  obtain ⟨fd, F⟩ := c_Flaw_names S
  exact ⟨_, _, _, [], ok_law_names F (tx S.1 S.2.1 S.2.2) (c_law_draw S base) (c_law_pick S base), He.glo_ok S.1 S.2.1 (S.2.2.fact 20 rfl), F.kp, FunD.bindsN (ps := ["_law_pen_here", "_law_many"]) F (fun _ _ _ _ _ _ us hl => match us, hl with | [_, _], _ => rfl), .nil⟩
theorem c_Flaw_office (S : St K h mg) : ∃ fd, FD K "_law_office" s_law_office (ga K "_law_office") fd := S.2.2.def_ 21 (d := d_law_office) rfl rfl
theorem c_law_office (S : St K h mg) (base : Heap) : C8.Cal Pg w K mg base 3 "_law_office" spRawOff [] := by
  obtain ⟨fd, F⟩ := c_Flaw_office S
  exact ⟨_, _, _, [], ok_law_office F (tx S.1 S.2.1 S.2.2) (c_law_draw S base) (c_law_pick S base), He.glo_ok S.1 S.2.1 (S.2.2.fact 21 rfl), F.kp, FunD.bindsN (ps := ["_law_pen_here", "_law_label", "_law_ends", "_law_top"]) F (fun _ _ _ _ _ _ us hl => match us, hl with | [_, _, _, _], _ => rfl), .nil⟩
theorem c_Flaw_ring (S : St K h mg) : ∃ fd, FD K "_law_ring" s_law_ring (ga K "_law_ring") fd := S.2.2.def_ 22 (d := d_law_ring) rfl rfl
theorem c_law_ring (S : St K h mg) (base : Heap) : C8.Cal Pg w K mg base 3 "_law_ring" spRing [] := by
  obtain ⟨fd, F⟩ := c_Flaw_ring S
  exact ⟨_, _, _, [], ok_law_ring F (tx S.1 S.2.1 S.2.2) (c_law_draw S base) (c_law_pick S base), He.glo_ok S.1 S.2.1 (S.2.2.fact 22 rfl), F.kp, FunD.bindsN (ps := ["_law_pen_here", "_law_labels", "_law_ends"]) F (fun _ _ _ _ _ _ us hl => match us, hl with | [_, _, _], _ => rfl), .nil⟩
theorem c_Flaw_raw (S : St K h mg) : ∃ fd, FD K "_law_raw" s_law_raw (ga K "_law_raw") fd := S.2.2.def_ 23 (d := d_law_raw) rfl rfl
theorem c_law_raw (S : St K h mg) (base : Heap) : C8.Cal Pg w K mg base 4 "_law_raw" spRaw [] := by
  obtain ⟨fd, F⟩ := c_Flaw_raw S
  exact ⟨_, _, _, [], ok_law_raw F (tx S.1 S.2.1 S.2.2) (c_law_draw S base) (c_law_names S base) (c_law_office S base) (c_law_ring S base) (c_law_shuffled S base), He.glo_ok S.1 S.2.1 (S.2.2.fact 23 rfl), F.kp, FunD.bindsN (ps := ["_law_pen_here", "_law_many", "_law_top"]) F (fun _ _ _ _ _ _ us hl => match us, hl with | [_, _, _], _ => rfl), .nil⟩
theorem c_Flaw_one (S : St K h mg) : ∃ fd, FD K "_law_one" s_law_one (ga K "_law_one") fd := S.2.2.def_ 24 (d := d_law_one) rfl rfl
theorem c_law_one (S : St K h mg) (base : Heap) : C8.Cal Pg w K mg base 6 "_law_one" (spOne (aO K) (aC K)) [] := by
  obtain ⟨fd, F⟩ := c_Flaw_one S
  exact ⟨_, _, _, [], ok_law_one F (tx S.1 S.2.1 S.2.2) (c_Office S base) (c_CappedOffice S base), He.glo_ok S.1 S.2.1 (S.2.2.fact 24 rfl), F.kp, FunD.bindsN (ps := ["_law_one_here"]) F (fun _ _ _ _ _ _ us hl => match us, hl with | [_], _ => rfl), .nil⟩
theorem c_Flaw_made (S : St K h mg) : ∃ fd, FD K "_law_made" s_law_made (ga K "_law_made") fd := S.2.2.def_ 25 (d := d_law_made) rfl rfl
theorem c_law_made (S : St K h mg) (base : Heap) : C8.Cal Pg w K mg base 7 "_law_made" (spMade (aO K) (aC K) (aM K)) [] := by
  obtain ⟨fd, F⟩ := c_Flaw_made S
  exact ⟨_, _, _, [], ok_law_made F (tx S.1 S.2.1 S.2.2) (c_law_one S base) (c_Market S base), He.glo_ok S.1 S.2.1 (S.2.2.fact 25 rfl), F.kp, FunD.bindsN (ps := ["_law_raw_here"]) F (fun _ _ _ _ _ _ us hl => match us, hl with | [_], _ => rfl), .nil⟩
theorem c_Flaw (S : St K h mg) : ∃ fd, FD K "law" s_law (ga K "law") fd := S.2.2.def_ 27 (d := d_law) rfl rfl
theorem facts (S : St K h mg) {fa : Addr} (hfa : mg ("law" : Str) = some (.ref fa)) :
    ∃ fd : FuncData, (∀ (s : Shared) (v : Value), BindsTo s fd ⟨[v], []⟩ [("_law_script", v)]) ∧ ∀ base : Heap, FnOk Pg w K mg base CX0 8 fa fd ["_law_script"] (spLaw K) := by
  obtain ⟨fd, F⟩ := c_Flaw S
  have eF := hfa.symm.trans (He.glo_ok S.1 S.2.1 (S.2.2.fact 27 rfl))
  cases eF
  exact ⟨fd, fun s v => FunD.bindsA (ps := ["_law_script"]) F (fun _ _ _ _ _ _ us hl => match us, hl with | [_], _ => rfl) s [v] rfl, fun base =>
    ok_law F (tx S.1 S.2.1 S.2.2) (c_law_pen S base) (c_law_draw S base) (c_law_pick S base) (c_law_raw S base) (c_law_made S base) (c_law_at S base)⟩
end
end Rd
end T_RdHead
section T_RdEnd
set_option Elab.async false
set_option linter.all false
set_option maxRecDepth 100000
set_option maxHeartbeats 0
namespace Rd
open PySem PySem.W PySem.Calls PyProof.Rows
abbrev R : OpenRow := OpenLaw.row PySem.Challenge.rw_rounddown_k63_whole_levels_add_up
abbrev qv : Program := view R.prog [61]
def names1 : List PySem.Str := ["_wall", "InvalidName", "InvalidRate", "InvalidNumber", "InvalidOffice", "InvalidMarket", "InvalidHolding", "InvalidText", "UnknownCurrency", "UnknownOffice", "DuplicateName", "TooMany", "Closed", "COINS", "LETTERS", "ALPHABET", "is_integer", "is_name", "is_list", "is_amount", "is_pair", "need_name", "need_integer", "need_amount", "need_currency", "need_holding", "NEVER", "first_level", "level_after", "levels"]
def names2 : List PySem.Str := ["DIGITS", "is_rate", "Office", "CappedOffice", "number_in", "rate_in", "office_in", "need_currencies", "need_ends", "need_offices", "market_parts", "currency_follows", "office_follows", "Market", "_law_pen", "_law_draw", "_law_pick", "_law_shuffled", "_law_names", "_law_office", "_law_ring", "_law_raw", "_law_one", "_law_made", "_law_at"]
def names : List PySem.Str := names1 ++ names2
def xs : List PySem.Str := ["is_integer", "is_name", "is_list", "is_amount", "is_pair", "need_name", "need_integer", "need_currency", "need_holding", "first_level", "level_after", "levels", "is_rate", "need_currencies", "need_ends", "need_offices", "_law_pen", "_law_draw", "_law_pick", "_law_shuffled", "_law_names", "_law_office", "_law_ring", "_law_raw", "_law_one", "_law_made", "_law_at", "law", "Office", "CappedOffice", "Market"]
def asL : (Addr → Option Obj) → List Addr := asR xs 4
abbrev hk : PySem.W.Hook := hookR asL fs fn
def ob (s : PySem.W.SharedT) : AlR := obsRG asL fs fn (HandSHeadRun.getT s)
theorem ob_eq (s : PySem.W.SharedT) : ob s = hk.obs s.abs := obsRG_eq (HandSHeadRun.getT_eq s)
theorem run (w : World) : HandSHeadRun.RunEq R qv hk ob 12000 names w := by
  intro os
  kernel_rfl
end Rd
open PySem PySem.W PySem.Calls PyProof.Rows
theorem PySem.Challenge.cw_rounddown_k63_whole_levels_add_up_holds : PySem.Challenge.rw_rounddown_k63_whole_levels_add_up.Holds := by
  w_on; o_law
  refine HandSHeadRun.head_any (r := OpenLaw.row PySem.Challenge.rw_rounddown_k63_whole_levels_add_up) (q := view (OpenLaw.row PySem.Challenge.rw_rounddown_k63_whole_levels_add_up).prog [61]) (H := Rd.hk) (ob := Rd.ob) (M := 12000) (loose := Rd.names) (d := HandSHeadRun.topDef (OpenLaw.row PySem.Challenge.rw_rounddown_k63_whole_levels_add_up).prog 61) (kwd := []) Rd.ob_eq
    (by kernel_rfl) (fun s => by kernel_rfl) Rd.run (by kernel_rfl) (by kernel_rfl) (by kernel_rfl) (by rfl) (by first | assumption | decide +kernel) (by decide +kernel) ⟨rfl, rfl, rfl, rfl, rfl, by decide +kernel⟩ ?hw ?hc
  case hw => w_witness2
  case hc =>
    refine L2.walk_ofE (l := PySem.Challenge.rw_rounddown_k63_whole_levels_add_up) (n := 63) (k := 8) (x := "_law_script") (CX := L2.CX0) rfl (by decide) (by kernel_rfl) ⟨rfl, by decide, by decide⟩ ?F (fun _ _ _ _ z => z)
    intro w mg fa h Y G hmg0
    obtain ⟨K, KX, c⟩ := Y
    have hmg : mg ("law" : PySem.Str) = some (.ref fa) := by
      have e : (HandSHeadRun.topDef (OpenLaw.row PySem.Challenge.rw_rounddown_k63_whole_levels_add_up).prog 61).name = ("law" : PySem.Str) := by kernel_rfl
      rw [← e]
      exact hmg0
    obtain ⟨fd, hb, hF⟩ := Rd.facts (w := w) ⟨KX, G, c⟩ hmg
    exact ⟨K, fd, Rd.spLaw K, KX, hb, fun H a ns hl _ hS => ⟨a, ns, rfl, hS, hl, fun _ => rfl⟩, fun base _ _ => hF base⟩
end T_RdEnd
