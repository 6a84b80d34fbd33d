import PyProof.Rows.All
import Wide.All
import OpenK.AllK
import Wide.FinOn
import KE.KSuper
import KE.KExcInit
import HandS.Base
import HandS.Call
import HandS.Exc
import HandS.ExcSuper
import HandS.ForExc
import HandS.ExcField
import PyProof.StrOps2
import PyProof.Draws
import KE.GoesMore
import HandS.ForMost
import HandS.Walk
import HandS.Codes
import HandS.Evl
import HandS.IsInst
import HandS.Conv
import HandS.Zip
import HandS.Wide
import HandS.Lambda
import HandS.Head0
import HandS.Head1
import HandS.Head2
import HandS.HeadEnd
import HandS.HeadHook1
import HandS.HeadHook2
import HandS.HeadHook3
import HandS.HeadHook4
import HandS.EndTab
import HandS.HeadWalk
import KE.KStateDown
import Lean
import PySem.Challenge.RW_runscarried_k01_whole_texts_cut_into_gro
set_option Elab.async false
set_option linter.all false
section of_RxExc
set_option maxRecDepth 100000
set_option maxHeartbeats 4000000
/-! Own exception classes over own classes over Exception, whose __init__ says super().__init__(text) and then keeps each of its arguments in a field of the same name. -/
namespace Rx
open PySem PySem.Spec PyProof.Rows PySem.W PySem.Calls Builtin Builtin.ObjectAttr
/-- Exception's own line of classes -/
abbrev xTail : List Value := [.type "Exception", .type "BaseException", .type "object"]
abbrev XPos : Type := Pos × Pos × Pos × Pos
/-- self.f = f, one behind the other -/
def keepsOf : List (Str × XPos) → List Stmt
  | [] => []
  | (f, p1, p2, p3, p4) :: r => .Assign [.Attribute (.Name "self" p1) f p2] (.Name f p3) p4 :: keepsOf r
abbrev superOf (txt : Str) (j : Nat) (p0 p1 p2 p3 p4 p5 : Pos) : Stmt := .Expr (.Call (.Attribute (.Call (.Name "super" p0) [] [] p1) "__init__" p2) [.Constant (.str txt) j p3] [] p4) p5
/-- how the call of super().__init__ goes, by its places in the text -/
def SuperGoes (txt : Str) (j : Nat) (p0 p1 p2 p3 p4 : Pos) (env : Env) : Prop := ∃ pl : Sem Bool, eval (.Call (.Attribute (.Call (.Name "super" p0) [] [] p1) "__init__" p2) [.Constant (.str txt) j p3] [] p4) env = (do
  let ov ← attributeBase (.Call (.Name "super" p0) [] [] p1) "__init__" env (eval (.Call (.Name "super" p0) [] [] p1) env)
  standAt p2.atName
  let (f, first) ← holding [ov] (getMethod ov "__init__" pl)
  callWith p4 f first (backTo p4 (starEach [.Constant (.str txt) j p3] env)) [])
/-- a def's scope -/
abbrev dsc (ns : List (Str × NameKind)) : Scope := { kind := .function, names := ns, isGenerator := false, isCoroutine := false, more := [] }
/-- an exception's object -/
abbrev xObj (C t : Addr) (d : Option Addr) : Obj := { cls := .ref C, dict := d, data := .fields #[.ref t, .none, .none, .none, .bool false, .none] }
/-- what is kept, newest last -/
def keptOf : List (Str × Value) → (Str → Option Value) → Str → Option Value
  | [], m => m
  | (f, v) :: r, m => keptOf r (fun y => if y = f then some v else m y)
/-- what the written part says of the class at C -/
structure XCls (K : Frag) (C : Addr) (fs : List Str) : Prop where
  ini : excInitIn K C xTail "Exception.__new__" = true
  ov : excOver K C xTail = true
  sa : findIn K (.ref C) "__setattr__" = some (some (.builtin "object.__setattr__"))
  no : ∀ f ∈ fs, findIn K (.ref C) f = some none
  hdC : hasDictIn K C = true
section
variable {prog : Program} {w : World} {A : Around} {E : Value → Shared → Prop} {K : Frag} {C x L : Addr} {fs : List Str}
/-- self.f = v, the first one -/
theorem x_first (T : XCls K C fs) {hp : Heap} {g : Array GenState} {d : Drawn} {t : Nat} {os : OsState} {t0 : Addr} {f : Str} {v : Value} {Q : Unit → Shared → Prop} (X : K.In hp) (hx : hp.get? x = some (xObj C t0 none)) (hf : f ∈ fs)
    (hq : ∀ h' tk dx, (∀ b o, b ≠ x → hp.get? b = some o → h'.get? b = some o) → hp.objs.size ≤ dx → dx ≠ x → h'.get? x = some (xObj C t0 (some dx)) → h'.Ns1 dx (fun y => if y = f then some v else none) → Q () ⟨h', g, d, tk, os⟩) :
    wpAny (model prog w) A (setAttr (.ref x) f v) Q E ⟨hp, g, d, t, os⟩ := by
  have hxs : x ≠ hp.objs.size := Nat.ne_of_lt (Heap.lt_size hx)
  refine set_plain (od := none) X ⟨hx, rfl, rfl, trivial⟩ T.sa ?_
  refine osa_openX (r := none) (od := none) PySem.F.store_Exception X ⟨hx, rfl, rfl, trivial⟩ T.ov (by unfold takerIn; rw [T.no f hf]; rfl) fun b => ?_
  obtain ⟨cd, hc, hd'⟩ := any_some T.hdC
  show wpAny _ _ (storeInOwnDict (.ref x) (.ref C) (.str f t) f v b) _ _ _
  refine wpAny_bind (wpAny_pure (wpAny_bind (instanceDict_exc hx (looks_clsIn X hc) hd' ?_)))
  refine HandSPX.store_in_new ?_ fun h' tk' hn' hs => ?_
  · exact ⟨_, #[], _, (Heap.get?_update_ne _ _ _ _ hxs.symm).trans (Heap.get?_push_at rfl rfl), rfl, fun e he => absurd he (by simp), fun _ => rfl⟩
  · have hx1 : (hp.push (dictOf [] 0)).get? x = some (xObj C t0 none) := Heap.get?_push_of_some _ hx
    refine hq h' tk' hp.objs.size (fun b o hb ho => ?_) (Nat.le_refl _) hxs.symm ?_ hn'
    · exact (hs.2 b (Nat.ne_of_lt (Heap.lt_size ho))).trans ((Heap.get?_update_ne _ _ _ _ hb).trans (Heap.get?_push_of_some _ ho))
    · exact (hs.2 x hxs).trans (Heap.get?_update_self _ hx1 rfl)
/-- self.f = v, a further one -/
theorem x_more (T : XCls K C fs) {hp : Heap} {g : Array GenState} {d : Drawn} {t : Nat} {os : OsState} {t0 dx : Addr} {f : Str} {v : Value} {m0 : Str → Option Value} {nl : List Str} {Q : Unit → Shared → Prop} (X : K.In hp) (hx : hp.get? x = some (xObj C t0 (some dx)))
    (hns : hp.Ns1 dx m0) (hw : Within m0 nl) (hz : nl.length ≤ 1000) (hf : f ∈ fs)
    (hq : ∀ h' tk, (∀ b o, b ≠ dx → hp.get? b = some o → h'.get? b = some o) → h'.Ns1 dx (fun y => if y = f then some v else m0 y) → Q () ⟨h', g, d, tk, os⟩) :
    wpAny (model prog w) A (setAttr (.ref x) f v) Q E ⟨hp, g, d, t, os⟩ := by
  obtain ⟨oD, esD, epD, hoD, hdD, _⟩ := hns.count hw
  refine set_plain (od := some oD) X ⟨hx, rfl, rfl, hoD⟩ T.sa ?_
  refine osa_openX (r := none) (od := some oD) PySem.F.store_Exception X ⟨hx, rfl, rfl, hoD⟩ T.ov (by unfold takerIn; rw [T.no f hf]; rfl) fun b => ?_
  obtain ⟨cd, hc, hd'⟩ := any_some T.hdC
  show wpAny _ _ (storeInOwnDict (.ref x) (.ref C) (.str f t) f v b) _ _ _
  refine wpAny_bind (wpAny_pure (wpAny_bind (wpAny_bind (wpAny_loadPart hx (wpAny_bind ((looks_clsIn X hc).here ?_))))))
  rw [hd']
  refine wpAny_pure (a := some dx) ?_
  refine ESX.store_in_old hns hw hz fun h' tk' hn' hs => ?_
  exact hq h' tk' (fun b o hb ho => (hs.2 b hb).trans ho) hn'
end
section
variable {prog : Program} {w : World} {A : Around} {E : Value → Shared → Prop} {K : Frag} {C x L : Addr} {fs : List Str} {env : Env}
/-- self.f = f, one behind the other, where a field stands already -/
theorem x_keeps (T : XCls K C fs) (hk : env.scope.kind = .function) (hL : env.locals = L) (kS : env.kindOf "self" = some .local) {g : Array GenState} {d : Drawn} {os : OsState} {t0 dx : Addr} {Q : Flow → Shared → Prop} {mL : Str → Option Value} (hself : mL "self" = some (.ref x)) (hxL : x ≠ L) (hdL : dx ≠ L) (hKx : K.lookup dx = none) :
    ∀ (l : List (Str × XPos)) (us : List Value) (hp : Heap) (t : Nat) (m0 : Str → Option Value) (nl : List Str), us.length = l.length → (∀ (i : Nat) (f : Str) (p : XPos) (u : Value), l[i]? = some (f, p) → us[i]? = some u → mL f = some u) → (∀ q ∈ l, q.1 ∈ fs ∧ env.kindOf q.1 = some .local ∧ (q.1 == ("__debug__" : Str)) = false) →
      K.In hp → hp.get? x = some (xObj C t0 (some dx)) → dx ≠ x → hp.Ns L mL → hp.Ns1 dx m0 → Within m0 nl → nl.length + l.length ≤ 1000 →
      (∀ h' tk, (∀ b o, b ≠ dx → hp.get? b = some o → h'.get? b = some o) → h'.Ns1 dx (keptOf ((l.map (·.1)).zip us) m0) → Q .next ⟨h', g, d, tk, os⟩) →
      wpAny (model prog w) A (execs (keepsOf l) env) Q E ⟨hp, g, d, t, os⟩
  | [], us, hp, t, m0, nl, hlen, _, _, X, hx, _, hns, hn1, _, _, hq => by
    have e : us = [] := List.eq_nil_of_length_eq_zero hlen
    subst e
    exact wpAny_execs_nil (hq hp t (fun b o _ e => e) hn1)
  | (f, p1, p2, p3, p4) :: r, us, hp, t, m0, nl, hlen, hm, hl, X, hx, hdx, hns, hn1, hw, hz, hq => by
    cases us with
    | nil => simp at hlen
    | cons u us =>
      obtain ⟨h1, h2, h3⟩ := hl _ (List.mem_cons_self ..)
      have hu := hm 0 f (p1, p2, p3, p4) u rfl rfl
      have hns' : hp.Ns env.locals mL := by rw [hL]; exact hns
      refine wpAny_execs_cons (plainObj_wpAny_Assign_Attribute ?_)
      refine wpAny_Name (wpAny_loadName_local hk h2 hns' hu ?_) h3
      refine wpAny_Name (wpAny_loadName_local hk kS hns' hself ?_) (by decide)
      refine x_more T X hx hn1 hw (by simp only [List.length_cons] at hz; omega) h1 fun h' tk k hn' => ?_
      obtain ⟨oL, es, ep, e1, e2⟩ := hns
      refine x_keeps T hk hL kS hself hxL hdL hKx r us h' tk _ (f :: nl) (by simpa using hlen) (fun i f' p' u' a b => hm (i + 1) f' p' u' a b) (fun q hq' => hl q (List.mem_cons_of_mem _ hq')) (fun b o e => k b o (fun z => by rw [z, hKx] at e; cases e) (X b o e)) (k _ _ (Ne.symm hdx) hx) hdx ⟨oL, es, ep, k _ _ (Ne.symm hdL) e1, e2⟩ hn' (Within.cons f u hw) (by simp only [List.length_cons] at hz ⊢; omega) fun h'' tk' k' hn'' => ?_
      exact hq h'' tk' (fun b o hb e => k' b o hb (k b o hb e)) hn''
end
/-- what the written part says of its __init__ at fI -/
structure XTxt (P : Program) (K : Frag) (mg : Str → Option Value) (C fI : Addr) (x : Str) (fs : List Str) : Prop extends XCls K C fs where
  gC : mg x = some (.ref C)
  gS : mg "super" = none
  iC : findIn K (.ref C) "__init__" = some (some (.ref fI))
  tI : typeIn K (.ref fI) = some (.type "function")
  kC : keepIn K (.ref C) = true
  exC : subIn K (.ref C) (.type "BaseException") = some true
  exE : subIn K (.ref C) (.type "Exception") = some true
  tyC : typeIn K (.ref C) = some (.type "type")
  opq : nsIn K cStatics "thirdparty.any" = some none
  sup : ks_superIn K C C "__init__" = some (some (.builtin "Exception.__init__"))
  slf : mroIn K C (.ref C) = some true
  fn : ∃ (qual : Str) (params : Arguments) (ns : List (Str × NameKind)) (dV kV doc pm ct oc : Value) (an od : Option Addr) (osl : Array (Option Value)) (cc cda : Addr) (ar : Arg) (txt : Str) (j : Nat) (p0 p1 p2 p3 p4 p5 : Pos) (l : List (Str × XPos)) (vs : Array Value) (file : Str) (tf : Tok) (ccl cl : Value) (cdd cld : Option Addr) (ccs csl : Array (Option Value)),
    K.lookup fI = some ⟨oc, od, .func (ksFn "__init__" qual params (superOf txt j p0 p1 p2 p3 p4 p5 :: keepsOf l) (dsc ns) dV kV doc pm an (.ref cda) ct cc), osl⟩ ∧ codeIn K (.ref cda) qual = true ∧
    (params.posonlyargs ++ params.args).head? = some ar ∧ ar.arg = "self" ∧ l.map (·.1) = fs ∧
    K.lookup cda = some ⟨ccl, cdd, .fields vs, ccs⟩ ∧ vs[2]? = some (.str file tf) ∧ ((P.main.file : Str) == file) = true ∧ (P.main.scope.names.lookup ("super" : Str)).isSome = false ∧
    K.lookup cc = some ⟨cl, cld, .cell (some (.ref C)), csl⟩ ∧
    ns.lookup ("super" : Str) = some .globalImplicit ∧ ns.lookup ("__class__" : Str) = some .free ∧ (∀ y ∈ ns, y.2 ≠ .cell) ∧
    (∀ y ∈ ("self" : Str) :: fs, ns.lookup y = some .local) ∧ (("self" : Str) :: fs).Nodup ∧ fs.length ≤ 100 ∧ (∀ y ∈ fs, (y == ("__debug__" : Str)) = false) ∧
    (∀ us : List Value, us.length = fs.length + 1 → bindArgs (ksFn "__init__" qual params (superOf txt j p0 p1 p2 p3 p4 p5 :: keepsOf l) (dsc ns) dV kV doc pm an (.ref cda) ct cc) ⟨us, []⟩ = pure ((("self" : Str) :: fs).zip us)) ∧
    (∀ L : Addr, SuperGoes txt j p0 p1 p2 p3 p4 (ksEnv qual (dsc ns) L fI (.ref cda) cc))
theorem boot_super : bootBuiltins "super" = some (.type "super") := by first | boot_by_name | rfl | kernel_rfl
theorem zip_look {fs : List Str} {us : List Value} (hn : fs.Nodup) (hl : fs.length ≤ us.length) : ∀ {i : Nat} {f : Str} {u : Value}, fs[i]? = some f → us[i]? = some u → (fs.zip us).reverse.lookup f = some u := by
  intro i f u h1 h2
  have hm : (f, u) ∈ fs.zip us := by
    refine List.mem_of_getElem? (i := i) ?_
    rw [List.getElem?_zip_eq_some]
    exact ⟨h1, h2⟩
  have key : ∀ (l : List (Str × Value)), (l.map (·.1)).Nodup → (f, u) ∈ l → l.lookup f = some u := by
    intro l
    induction l with
    | nil => intro _ h; cases h
    | cons a r ih =>
      intro hn h
      obtain ⟨k, v⟩ := a
      rw [List.map_cons, List.nodup_cons] at hn
      rcases List.mem_cons.mp h with e | e
      · cases e
        simp [List.lookup]
      · have ne : f ≠ k := fun z => hn.1 (by rw [← z]; exact List.mem_map.mpr ⟨_, e, rfl⟩)
        rw [List.lookup_cons, beq_eq_false_iff_ne.mpr ne]
        exact ih hn.2 e
  refine key _ ?_ (List.mem_reverse.mpr hm)
  rw [List.map_reverse]
  refine (List.reverse_perm _).nodup_iff.mpr ?_
  rw [List.map_fst_zip hl]
  exact hn
section
variable {P : Program} {w : World} {A : Around} {K : Frag} {mg : Str → Option Value} {C fI x : Addr} {nm : Str} {fs : List Str}
/-- what __init__ leaves of a fresh exception at x -/
structure XEnd (h h' : Heap) (x C : Addr) (fs : List Str) (us : List Value) : Prop where
  keep : ∀ b o, b ≠ x → h.get? b = some o → h'.get? b = some o
  obj : ∃ t d, h'.get? x = some (xObj C t (some d)) ∧ h.objs.size ≤ d ∧ d ≠ x ∧ h'.Ns1 d (keptOf (fs.zip us) fun _ => none)
theorem x_init (T : XTxt P K mg C fI nm fs) (hfs : fs ≠ []) {s : Shared} {t0 : Addr} {us : List Value} {R : Result → Shared → Prop} (X : K.In s.heap) (hg : s.heap.Ns mainGlobals mg) (hb : ∃ mb, s.heap.Ns builtinsNs mb ∧ ∀ y : Str, y ≠ "__name__" → mb y = bootBuiltins y) (hlim : s.heap.NoLimit)
    (hx : s.heap.get? x = some (xObj C t0 none)) (hnx : K.lookup x = none) (hus : us.length = fs.length) (hroom : A.depth < recursionLimit)
    (hq : ∀ h' tk, XEnd s.heap h' x C fs us → R (.ok (.ret .none)) { s with heap := h', toks := tk }) :
    codeAny (model P w) A (.call (.ref fI) ⟨.ref x :: us, []⟩) R s := by
  obtain ⟨qual, params, ns, dV, kV, doc, pm, ct, oc, an, od, osl, cc, cda, ar, txt, j, p0, p1, p2, p3, p4, p5, l, vs, file, tf, ccl, cl, cdd, cld, ccs, csl, ho, hcd, hp, har, hfl, hcode, hvs, hfile, htop, hcell, hks, hkc, hnc, hloc, hnd, hlen, hdb, hbind, hgo⟩ := T.fn
  obtain ⟨mb, hb1, hb2⟩ := hb
  have hzl : ∀ y ∈ (("self" : Str) :: fs).zip (Value.ref x :: us), ns.lookup y.1 = some .local := fun y hy => hloc y.1 (List.of_mem_zip hy).1
  refine ks_codeAny_call_defAt (fd := ksFn "__init__" qual params (superOf txt j p0 p1 p2 p3 p4 p5 :: keepsOf l) (dsc ns) dV kV doc pm an (.ref cda) ct cc) (body := superOf txt j p0 p1 p2 p3 p4 p5 :: keepsOf l) (binds := (("self" : Str) :: fs).zip (Value.ref x :: us)) hroom (X _ _ ho) rfl hlim (codeRec_of X hcd) rfl (BindsTo.of_eq (hbind _ (by simp [hus]))) hnc hzl (fun h0 hns k0 => ?_) rfl rfl rfl
  obtain ⟨hp0, g, d, t, os⟩ := s
  have hxL : x ≠ hp0.objs.size := Nat.ne_of_lt (Heap.lt_size hx)
  have X0 : K.In h0 := X.keeps k0
  have hx0 := k0 _ _ hx
  have nsK : ∀ {b : Addr} {m : Str → Option Value} {h1 h2 : Heap}, (∀ b o, h1.get? b = some o → h2.get? b = some o) → h1.Ns b m → h2.Ns b m := fun k ⟨o, es, ep, e, r⟩ => ⟨o, es, ep, k _ _ e, r⟩
  show _root_.PySem.wpAt _ _ _ (execs (superOf txt j p0 p1 p2 p3 p4 p5 :: keepsOf l) (ksEnv qual (dsc ns) hp0.objs.size fI (.ref cda) cc)) _ _ _
  obtain ⟨cd, hc, hcm⟩ : ∃ cd, clsIn K C = some cd ∧ alongIn K "__init__" ((cd.mro.dropWhile (· != .ref C)).drop 1) = some (some (.builtin "Exception.__init__")) := by
    have z := T.sup
    unfold ks_superIn at z
    obtain ⟨cd, h1, h2⟩ := Option.bind_eq_some_iff.mp z
    exact ⟨cd, h1, h2⟩
  obtain ⟨oC, hoC, hoCd⟩ : ∃ oC, K.lookup C = some oC ∧ oC.data = .cls cd := by
    unfold clsIn at hc
    split at hc
    · rename_i c d' cd' sl ho'
      cases hc
      exact ⟨_, ho', rfl⟩
    · cases hc
  have hselfL : (fun y => ((("self" : Str) :: fs).zip (Value.ref x :: us)).reverse.lookup y) "self" = some (.ref x) := zip_look (i := 0) hnd (by simp [hus]) rfl rfl
  obtain ⟨pl, hev⟩ := hgo hp0.objs.size
  refine ks_wpAt_execs_cons (ks_wpAt_Expr_any (ks_wpAt_MethodCall (pl := pl) (ks_wpAt_super_base (env := ksEnv qual (dsc ns) hp0.objs.size fI (.ref cda) cc) hks hkc (by decide) rfl (X0 _ _ ho) rfl hp rfl (X0 _ _ hcode) rfl hvs hfile htop ?_) hev))
  refine ks_loadName_global rfl hks (loadGlobal_builtin (env := ksEnv qual (dsc ns) hp0.objs.size fI (.ref cda) cc) (nsK k0 hg) T.gS (nsK k0 hb1) ((hb2 _ (by decide +kernel)).trans boot_super) ⟨rfl, ?_⟩)
  refine wpAny_loadName_free rfl hkc rfl ⟨_, X0 _ _ hcell, rfl⟩ ?_
  rw [har]
  refine wpAny_loadName_local rfl (hloc _ (List.mem_cons_self ..)) hns hselfL ?_
  refine ks_wpAny_isType_cls (X0 _ _ hoC) hoCd ⟨rfl, ?_⟩
  refine ks_wpAny_call_super (X0 _ _ hoC) hoCd hx0 rfl (fun c e => by cases e) (looks_mroIn X0 T.slf) (fun h1 e1 k1 => ?_)
  have X1 : K.In h1 := X0.keeps k1
  have hxC : x ≠ C := fun z => by
    rw [z, hoC] at hnx
    cases hnx
  have hx1 := k1 _ _ hx0
  have I1 : InstAt h1 x (xObj C t0 none) C none := ⟨hx1, rfl, rfl, trivial⟩
  refine ESX.getMethod_super e1 (looks_opaque X1 T.opq) (l₀ := cd.mro) (fun A Q E s k q => wpAny_bind ((looks_clsIn X1 hc) A _ E s k (wpAny_pure q))) rfl X1 hcm hxC (by decide) (I1.type.andThen (looks_subIn X1 T.exE)) ?_
  have hu : (h1.push (ESX.bw x)).get? h1.objs.size = some (ESX.bw x) := Heap.get?_push_at rfl rfl
  have k2 : ∀ b o, h1.get? b = some o → (h1.push (ESX.bw x)).get? b = some o := fun b o e => Heap.get?_push_of_some _ e
  refine ESX.callWith_bound (x := x) ?_ (by rfl) (by rfl)
  refine Calls.spliced_cons (Calls.Constant_str (k := j) (pos := p3) (Calls.spliced_nil ⟨hu, ?_⟩))
  obtain ⟨nm', N', qn, bs, bm, hdct, sn, sub, ab, col, dd, q0, q1, q2, q3, q5, hC, hT⟩ := excInit_of (X1.keeps k2) T.ini
  refine ESX.call_bw hC (k2 _ _ hx1) hu (by show 1 ≤ sizeLine; rw [sizeLine_eq]; decide) fun h2 t1 k3 hx2 => ?_
  refine wpAt_of_wpAny ?_
  have kk : ∀ b o, b ≠ x → hp0.get? b = some o → h2.get? b = some o := fun b o hb e => k3 b o hb (k2 _ _ (k1 _ _ (k0 _ _ e)))
  have X2 : K.In h2 := fun b o e => kk b o (fun z => by rw [z, hnx] at e; cases e) (X b o e)
  have ns2 : h2.Ns hp0.objs.size (fun y => ((("self" : Str) :: fs).zip (Value.ref x :: us)).reverse.lookup y) := by
    obtain ⟨oL, es, ep, e1', e2'⟩ := hns
    exact ⟨oL, es, ep, k3 _ _ (Ne.symm hxL) (k2 _ _ (k1 _ _ e1')), e2'⟩
  have hf0 : ∀ (i : Nat) (f : Str) (u : Value), fs[i]? = some f → us[i]? = some u → ((("self" : Str) :: fs).zip (Value.ref x :: us)).reverse.lookup f = some u := fun i f u a b => zip_look (i := i + 1) hnd (by simp [hus]) a b
  cases l with
  | nil => exact absurd hfl.symm hfs
  | cons q r =>
    obtain ⟨f, p1', p2', p3', p4'⟩ := q
    subst hfl
    cases us with
    | nil => simp at hus
    | cons u us =>
      refine wpAny_execs_cons (plainObj_wpAny_Assign_Attribute ?_)
      refine wpAny_Name (wpAny_loadName_local rfl (hloc f (List.mem_cons_of_mem _ (List.mem_cons_self ..))) ns2 (hf0 0 f u rfl rfl) ?_) (hdb f (List.mem_cons_self ..))
      refine wpAny_Name (wpAny_loadName_local rfl (hloc _ (List.mem_cons_self ..)) ns2 hselfL ?_) (by decide)
      refine x_first T.toXCls X2 hx2 (List.mem_cons_self ..) fun h3 tk dx k4 dn dne hx3 hn3 => ?_
      have hKx : K.lookup dx = none := by
        cases e : K.lookup dx with
        | none => rfl
        | some o => exact absurd (Nat.lt_of_lt_of_le (Heap.lt_size (X2 _ _ e)) dn) (Nat.lt_irrefl _)
      have s2 : hp0.objs.size < h2.objs.size := by
        obtain ⟨oL, es, ep, e1', _⟩ := ns2
        exact Heap.lt_size e1'
      have hdL : dx ≠ hp0.objs.size := fun z => by
        rw [z] at dn
        exact absurd s2 (Nat.not_lt.mpr dn)
      obtain ⟨oL, es, ep, e1', e2'⟩ := ns2
      refine x_keeps (L := hp0.objs.size) (env := ksEnv qual (dsc ns) hp0.objs.size fI (.ref cda) cc) T.toXCls rfl rfl (hloc _ (List.mem_cons_self ..)) hselfL hxL hdL hKx r us h3 tk _ [f] (by simpa using hus) (fun i f' p' u' a b => hf0 (i + 1) f' u' (by rw [List.map_cons, List.getElem?_cons_succ, List.getElem?_map, a]; rfl) b) (fun q hq' => ?_)
        (fun b o e => k4 b o (fun z => by rw [z, hnx] at e; cases e) (X2 b o e)) hx3 dne ⟨oL, es, ep, k4 _ _ (Ne.symm hxL) e1', e2'⟩ hn3 (Within.cons f u Within.nil) (by simp only [List.map_cons, List.length_cons, List.length_map] at hlen; simp only [List.length_cons, List.length_nil]; omega) fun h4 tk' k5 hn4 => ?_
      · have hm : q.1 ∈ (f :: r.map (·.1)) := List.mem_cons_of_mem _ (List.mem_map.mpr ⟨q, hq', rfl⟩)
        exact ⟨hm, hloc _ (List.mem_cons_of_mem _ hm), hdb _ hm⟩
      · refine hq h4 tk' ⟨fun b o hb e => k5 b o (fun z => ?_) (k4 b o hb (kk b o hb e)), t1, dx, k5 _ _ (Ne.symm dne) hx3, Nat.le_trans (Nat.le_of_lt s2) dn, dne, hn4⟩
        have y := Heap.lt_size e
        rw [z] at y
        exact absurd (Nat.lt_trans y s2) (Nat.not_lt.mpr dn)
end
end Rx
end of_RxExc

section of_RxMk
set_option maxRecDepth 100000
set_option maxHeartbeats 4000000
/-! Such an exception made (raise X(..)) and read (e.f) over the hand layer. -/
namespace Rx
open PySem PySem.Spec PyProof.Rows PySem.W PySem.Calls
theorem kept_look : ∀ (l : List (Str × Value)) (m : Str → Option Value) (f : Str), (l.map (·.1)).Nodup → keptOf l m f = match l.lookup f with | some v => some v | none => m f
  | [], _, _, _ => rfl
  | (g, v) :: r, m, f, hn => by
    rw [List.map_cons, List.nodup_cons] at hn
    show keptOf r (fun y => if y = g then some v else m y) f = _
    rw [kept_look r _ f hn.2]
    by_cases e : f = g
    · subst e
      have z : r.lookup f = none := by
        cases q : r.lookup f with
        | none => rfl
        | some u => exact absurd (List.mem_map.mpr ⟨_, PySem.mem_of_lookup q, rfl⟩) hn.1
      rw [z]
      simp [List.lookup]
    · rw [List.lookup_cons, beq_eq_false_iff_ne.mpr e]
      cases r.lookup f with
      | none => simp [e]
      | some u => rfl
end Rx
namespace L2
open PySem PySem.Spec PyProof.Rows
theorem relO_zip : ∀ {fs : List Str} {vs : List V} {us : List Value} (f : Str), Vals vs us → RelO ((fs.zip vs).lookup f) ((fs.zip us).lookup f)
  | [], _, _, _, _ => True.intro
  | _ :: _, _, _, _, .nil => True.intro
  | g :: fs, v :: vs, u :: us, f, .cons r t => by
    rw [List.zip_cons_cons, List.zip_cons_cons, List.lookup_cons, List.lookup_cons]
    cases e : f == g with
    | true => exact r
    | false => exact relO_zip f t
section
variable {X : Cx} {C fI : Addr} {nm : Str} {fs : List Str}
/-- X(e, ..) -/
def tMkX (C : Addr) (fs : List Str) (ta : TA) : St → Hp → XK → Prop := fun σ H Q => ta σ H fun vs H1 => vs.length = fs.length ∧ ∀ d, H1 d = none → Q (.ref C) (some d) (upd H1 d (.xd (fs.zip vs)))
theorem pmk_x {e : Expr} {es : List Expr} {ta : TA} {p pos : Pos} {k : Nat} (T : Rx.XTxt X.prog X.K X.mg C fI nm fs) (hfs : fs ≠ []) (hr : Room k X.A) (ha : PA X (e :: es) ta) (hg : Gl X nm := by rfl) (hdb : (nm == ("__debug__" : Str)) = false := by decide)
    (he : starEach (e :: es) X.env = (false, eval e X.env) :: starEach es X.env := by rfl) (hpl : (backTo pos (starEach es X.env)).any (·.1) = false := by rfl) :
    PMk X (.Call (.Name nm p) (e :: es) [] pos) (tMkX C fs ta) := by
  intro pins s σ H Q I h
  refine wpAny_Call_Name_kw (ld_glob I hg T.gC ?_ hdb)
  refine PySem.W.callWith_K (h₀ := X.base) I.ok.mod.kin T.kC (thn (ha.run pos pins s σ H _ I h) fun us s1 hh => ?_) he hpl
  obtain ⟨vs, H1, I1, r1, hlen, q1⟩ := hh
  refine ⟨I1.kIn, ?_⟩
  have hlu : us.length = fs.length := by rw [← Vals.length r1]; exact hlen
  have hnd : fs.Nodup ∧ fs.length ≤ 100 := by
    obtain ⟨qual, params, ns, dV, kV, doc, pm, ct, oc, an, od, osl, cc, cda, ar, txt, j, p0, p1, p2, p3, p4, p5, l, vs', file, tf, ccl, cl, cdd, cld, ccs, csl, ho, hcd, hp, har, hfl, hcode, hvs, hfile, htop, hcell, hks, hkc, hnc, hloc, hnd, hlen', hdb', hbind, hgo⟩ := T.fn
    exact ⟨(List.nodup_cons.mp hnd).2, hlen'⟩
  show wpAny _ _ (call (.ref C) us) _ _ _
  have hlim := I1.nolimit
  have hglob : s1.heap.Ns mainGlobals X.mg := I1.mod.glob.keeps I1.bk
  have hblt : ∃ mb, s1.heap.Ns builtinsNs mb ∧ ∀ y : Str, y ≠ "__name__" → mb y = bootBuiltins y := by
    obtain ⟨mb, b1, b2⟩ := I1.mod.blt
    exact ⟨mb, b1.keeps I1.bk, b2⟩
  have XK := I1.kIn
  obtain ⟨hp, g, dr, tk, os⟩ := s1
  obtain ⟨nm', N', qn, bs, bm, hdct, sn, sub, ab, col, dd, q0, q2, q3, q4, q5, hC, hT⟩ := PySem.W.excInit_of XK T.ini
  have kk : ∀ b o, hp.get? b = some o → ((hp.push (PySem.W.kdv_tup us)).push (PySem.HandSPX.excO C hp.objs.size)).get? b = some o := fun b o e => Heap.get?_push_of_some _ (Heap.get?_push_of_some _ e)
  have hget : ((hp.push (PySem.W.kdv_tup us)).push (PySem.HandSPX.excO C hp.objs.size)).get? (hp.objs.size + 1) = some (PySem.HandSPX.excO C hp.objs.size) := by heap_get
  have hnx : X.K.lookup (hp.objs.size + 1) = none := by
    cases e : X.K.lookup (hp.objs.size + 1) with
    | none => rfl
    | some o => exact absurd (Nat.lt_of_succ_lt (Heap.lt_size (XK _ _ e))) (Nat.lt_irrefl _)
  have nsK : ∀ {b : Addr} {m : Str → Option Value}, hp.Ns b m → ((hp.push (PySem.W.kdv_tup us)).push (PySem.HandSPX.excO C hp.objs.size)).Ns b m := fun ⟨o, es, ep, e, r⟩ => ⟨o, es, ep, kk _ _ e, r⟩
  refine wpAny_call (PySem.HandSPX.call_own F.excBase_Exception hT hC (PySem.W.looks_findIn XK T.iC) (fun self => PySem.W.bind_fn XK self T.tI) (by rw [hlu, sizeLine_eq]; omega) ?_)
  refine Rx.x_init (s := ⟨(hp.push (PySem.W.kdv_tup us)).push (PySem.HandSPX.excO C hp.objs.size), g, dr, tk, os⟩) T hfs (XK.keeps kk) (nsK hglob) (by obtain ⟨mb, b1, b2⟩ := hblt; exact ⟨mb, nsK b1, b2⟩) (hlim.keeps kk) hget hnx hlu ?_ fun h' tk' M => ?_
  · show X.A.depth + 1 < recursionLimit
    have := hr.dp
    omega
  · obtain ⟨t1, d, hx, dn, dne, hns⟩ := M.obj
    have zb : hp.objs.size + 1 + 1 ≤ d := by
      first
        | (simpa only [Heap.size_push] using dn)
        | exact dn
        | (have q := dn; rw [Heap.size_push, Heap.size_push] at q; exact q)
    have dbig : hp.objs.size ≤ d := Nat.le_trans (Nat.le_trans (Nat.le_succ _) (Nat.le_succ _)) zb
    have old : ∀ b o, hp.get? b = some o → h'.get? b = some o := fun b o e => M.keep b o (Nat.ne_of_lt (Nat.lt_succ_of_lt (Heap.lt_size e))) (kk b o e)
    refine ⟨rfl, ?_⟩
    show MkP X pins σ Q (.ref (hp.objs.size + 1)) ⟨h', g, dr, tk', os⟩
    obtain ⟨G', g1, g2⟩ := restrict h' fun b => decide (b ≠ hp.objs.size + 1)
    have gk : ∀ b, b ≠ hp.objs.size + 1 → G'.get? b = h'.get? b := fun b hb => g1 b (decide_eq_true hb)
    have ge : G'.get? (hp.objs.size + 1) = none := g2 _ (by simp)
    have oldG : ∀ b o, hp.get? b = some o → G'.get? b = some o := fun b o q => (gk b (Nat.ne_of_lt (Nat.lt_succ_of_lt (Heap.lt_size q)))).trans (old b o q)
    have ob : ObjOk X.prog X.w (upd H1 d (.xd (fs.zip vs))) G' d (.xd (fs.zip vs)) :=
      ⟨_, hns.at (fun o q => (gk d dne).trans q), fun f => by
        rw [Rx.kept_look _ _ f (by rw [List.map_fst_zip (Nat.le_of_eq hlu.symm)]; exact hnd.1)]
        have z := relO_zip (fs := fs) f r1
        cases q : (fs.zip us).lookup f with
        | some u => rw [q] at z; exact z
        | none =>
          rw [q] at z
          cases q2 : (fs.zip vs).lookup f with
          | none => exact True.intro
          | some v => rw [q2] at z; exact z.elim⟩
    have J : Inv X pins σ (upd H1 d (.xd (fs.zip vs))) ⟨G', g, dr, tk', os⟩ := I1.laid (t' := tk') oldG dbig ob
    refine ⟨hp.objs.size + 1, _, _, ⟨G', g, dr, tk', os⟩, _, .ref C, some d, rfl, J, fun b o q => ?_, ge, hx, ⟨rfl, rfl⟩, rfl, rfl, ?_, rfl, I1.bare, raises_own T.exC T.tyC, q1 d (I1.hok.fresh dbig)⟩
    · by_cases hb : b = hp.objs.size + 1
      · have q' : G'.get? b = some o := q
        rw [hb, ge] at q'; cases q'
      · exact (gk b hb).symm.trans q
    · rw [upd_ne (Ne.symm dne)]
      exact I1.hok.fresh (Nat.le_succ _)
/-- raise X(e, ..) -/
theorem ps_raiseX {e : Expr} {es : List Expr} {ta : TA} {W : WX} {p pos pos2 : Pos} {k : Nat} (hc : X.calm = true) (T : Rx.XTxt X.prog X.K X.mg C fI nm fs) (hfs : fs ≠ []) (hr : Room k X.A) (tk : Takes X W) (ha : PA X (e :: es) ta) (hg : Gl X nm := by rfl) (hdb : (nm == ("__debug__" : Str)) = false := by decide)
    (he : starEach (e :: es) X.env = (false, eval e X.env) :: starEach es X.env := by rfl) (hpl : (backTo pos (starEach es X.env)).any (·.1) = false := by rfl) :
    PS X (.Raise (some (.Call (.Name nm p) (e :: es) [] pos)) none pos2) (fun _ σ H => tMkX C fs ta σ H fun cls d H' => W cls d σ H') := ps_raise hc tk (pmk_x T hfs hr ha hg hdb he hpl)
end
end L2
end of_RxMk

section of_RxOps
set_option maxRecDepth 100000
set_option maxHeartbeats 4000000
/-! Rules that the hand layer lacks: x is True of any x, text * n, enumerate(text). -/
namespace L2
open PySem PySem.Spec PyProof.Rows
section
variable {X : Cx}
/-- x is True, x is False, x anything -/
theorem op_isBool : OpR X (compareOp .Is) (fun x y H Q => ∃ b : Bool, y = .bl b ∧ Q (.bl (decide (x = .bl b))) H) := by
  intro pins s σ H x y v u Q I rx ry h
  obtain ⟨b, rfl, q⟩ := h
  cases (show u = Value.bool b from ry)
  cases x with
  | bl a =>
    cases (show v = Value.bool a from rx)
    by_cases e : a = b
    · subst e
      exact wpAny_is_self rfl ⟨.bl true, H, I, rfl, by simpa using q⟩
    · exact wpAny_is_other rfl (fun z => e (Value.bool.inj z)) ⟨.bl false, H, I, rfl, by simpa [e] using q⟩
  | non =>
    cases (show v = Value.none from rx)
    exact wpAny_pure ⟨.bl false, H, I, rfl, by simpa using q⟩
  | int i =>
    obtain ⟨t, rfl⟩ := rx
    exact wpAny_pure ⟨.bl false, H, I, rfl, by simpa using q⟩
  | str z =>
    obtain ⟨t, rfl⟩ := rx
    exact wpAny_pure ⟨.bl false, H, I, rfl, by simpa using q⟩
  | byt z =>
    obtain ⟨t, rfl⟩ := rx
    exact wpAny_pure ⟨.bl false, H, I, rfl, by simpa using q⟩
  | flt z =>
    obtain ⟨t, rfl⟩ := rx
    exact wpAny_pure ⟨.bl false, H, I, rfl, by simpa using q⟩
  | ref a =>
    cases (show v = Value.ref a from rx)
    exact wpAny_pure ⟨.bl false, H, I, rfl, by simpa using q⟩
  | ty n =>
    cases (show v = Value.type n from rx)
    exact wpAny_pure ⟨.bl false, H, I, rfl, by simpa using q⟩
theorem foldl_cat (x : Array Nat) : ∀ (n : Nat) (acc : Array Nat), ((List.replicate n x).foldl (· ++ ·) acc).toList = acc.toList ++ (List.replicate n x.toList).flatten
  | 0, acc => by simp
  | n + 1, acc => by
    rw [List.replicate_succ, List.foldl_cons, foldl_cat x n (acc ++ x), List.replicate_succ, List.flatten_cons]
    simp
/-- text * n -/
theorem op_repS : OpR X (binaryOp .Mult) (fun x y H Q => ∃ (z : Str) (k : Nat), x = .str z ∧ y = .int (k : Int) ∧ 2 ≤ k ∧ 0 < z.length ∧ k ≤ 1000000 ∧ z.length ≤ 1000000 ∧ z.length * k ≤ 1000000 ∧ Q (.str ⟨((List.replicate k z.cps.toList).flatten).toArray⟩) H) := by
  intro pins s σ H x y v u Q I rx ry h
  obtain ⟨z, k, rfl, rfl, h2, hz, hk, hl, hm, q⟩ := h
  obtain ⟨t, rfl⟩ := rx
  obtain ⟨t', rfl⟩ := ry
  have n1 : ¬ (k : Int) < 1 := by omega
  have n2 : ((k : Int) == 1 || z.length == 0) = false := by
    simp
    omega
  refine P.mul_str (by simp; omega) (fun _ _ => ?_) (fun _ _ => ?_) ?_
  · have hd : (1000000 : Int) ≤ (2 ^ 63 - 1) / (k : Int) := by
      refine Int.le_ediv_of_mul_le (by omega) ?_
      have : (1000000 : Int) * (k : Int) ≤ 1000000 * 1000000 := Int.mul_le_mul_of_nonneg_left (by omega) (by decide)
      omega
    omega
  · unfold Builtin.Str.tooLong
    rw [Int.toNat_natCast]
    exact decide_eq_false (by rw [sizeLine_eq]; omega)
  · rw [if_neg n1, if_neg (by rw [n2]; decide)]
    have e : (⟨(List.replicate (k : Int).toNat z.cps).foldl (· ++ ·) #[]⟩ : Str) = ⟨((List.replicate k z.cps.toList).flatten).toArray⟩ := by
      rw [Int.toNat_natCast]
      refine congrArg Str.mk ?_
      refine Array.toList_inj.mp ?_
      rw [foldl_cat]
      simp
    rw [e]
    refine ⟨?_, ?_⟩
    · show (⟨((List.replicate k z.cps.toList).flatten).toArray⟩ : Str).length ≤ sizeLine
      rw [sizeLine_eq]
      show ((List.replicate k z.cps.toList).flatten).toArray.size ≤ 16777216
      rw [List.size_toArray, List.length_flatten, List.map_replicate, List.sum_replicate_nat]
      have : z.cps.toList.length = z.length := rfl
      rw [this, Nat.mul_comm]
      omega
    · exact ⟨.str _, H, I.tok _, ⟨_, rfl⟩, q⟩
/-! ### enumerate(text) -/
def IteS (x : Str) : It := ⟨fun i _ => i < x.cps.size, fun i H v H' => ∃ T c, v = .ref T ∧ H T = none ∧ x.cps[i]? = some c ∧ H' = upd H T (.tup [.int (i : Nat), .str ⟨#[c]⟩]), fun i _ => x.cps.size ≤ i⟩
theorem turn_enumS {P : Program} {w : World} {K : PySem.W.Frag} {elts : List Expr} {kk : Nat} {tpos : Pos} (x : Str) (t : Tok) (e it : Addr) :
    Turn P w K (.Tuple elts kk tpos) (IteS x) [e, it] e (fun i h => (∃ old, IsEnum h e it ((i : Nat) : Int) old) ∧ h.IsStrIter it (strIterType x) x t i ∧ i ≤ x.cps.size ∧ e ≠ it) where
  mem := by simp
  obj := fun i h st b hb => by
    obtain ⟨⟨old, he⟩, ⟨o, ho, hc, hd⟩, _⟩ := st
    have e' : b = e ∨ b = it := by simpa using hb
    rcases e' with z | z
    · rw [z]; exact ⟨_, he, fun v q => nomatch q⟩
    · rw [z]; exact ⟨o, ho, fun v q => by rw [hd] at q; cases q⟩
  keep := fun i h h' st k => let ⟨⟨old, he⟩, ⟨o, ho, r⟩, hi, hne⟩ := st; ⟨⟨old, k e (by simp) _ he⟩, ⟨o, k it (by simp) o ho, r⟩, hi, hne⟩
  item := by
    intro X hP hw hK hc i pins s σ H E I hf st hg
    subst hP hw hK
    obtain ⟨⟨old, he⟩, hit, hi, hne⟩ := st
    have hel : e < s.heap.objs.size := Heap.lt_size he
    have hil : it < s.heap.objs.size := by obtain ⟨_, q, _⟩ := hit; exact Heap.lt_size q
    have D := Draws.text (prog := X.prog) (w := X.w) (A := X.A.in1) (by exact I.ok.hd hc) it x t
    refine wpAny_pyNext_enum_itemD D he hit hg hne (by simpa using hne) fun v h' tk hP ho hit' hT hsz hk => ?_
    obtain ⟨c, u, hcx, rfl⟩ := hP
    refine ⟨_, rfl, wpAny_letOwnedTupleGo_enum (s := { s with heap := h', toks := tk + 1 }) ho fun h'' he' sb => ?_⟩
    have hT2 : h''.get? s.heap.objs.size = some { cls := .type "tuple", data := .seq #[.int i tk, .str ⟨#[c]⟩ u] } := (sb.2 _ (Nat.ne_of_gt hel)).trans hT
    have new : ObjOk X.prog X.w (upd H s.heap.objs.size (.tup [.int (i : Nat), .str ⟨#[c]⟩])) h'' s.heap.objs.size (.tup [.int (i : Nat), .str ⟨#[c]⟩]) :=
      ⟨by show 2 ≤ sizeLine; decide, [.int i tk, .str ⟨#[c]⟩ u], .cons ⟨_, rfl⟩ (.cons ⟨_, rfl⟩ .nil), ⟨_, hT2, rfl, _, rfl⟩⟩
    have I1 : Inv X pins σ (upd H s.heap.objs.size (.tup [.int (i : Nat), .str ⟨#[c]⟩])) { s with heap := h'', toks := tk + 1 } :=
      I.turnedNew (ch := [e, it]) (fun b ob hb q => (sb.2 b (fun z => hb (by simp [z]))).trans (hk b ob (fun z => hb (by simp [z])) (fun z => hb (by simp [z])) q)) hf (Nat.le_refl _) new
    refine ⟨.ref s.heap.objs.size, _, I1, rfl, ⟨_, c, rfl, I.hok.fresh (Nat.le_refl _), hcx, rfl⟩, ⟨⟨.str ⟨#[c]⟩ u, ?_⟩, ?_, hg, hne⟩, fun b hb => ?_⟩
    · have e1 : ((i + 1 : Nat) : Int) = (i : Int) + 1 := by omega
      rw [e1]; exact he'
    · obtain ⟨o, ho1, r⟩ := hit'
      exact ⟨o, (sb.2 it (Ne.symm hne)).trans ho1, r⟩
    · have hb' : b < s.heap.objs.size := by
        have e' : b = e ∨ b = it := by simpa using hb
        rcases e' with z | z
        · rw [z]; exact hel
        · rw [z]; exact hil
      rw [upd_ne (Nat.ne_of_lt hb')]
      exact (hf b hb).1
  done := by
    intro X hP hw hK hc i pins s σ H E I hf st hg
    subst hP hw hK
    obtain ⟨⟨old, he⟩, hit, hi, hne⟩ := st
    have hi' : i = x.cps.size := Nat.le_antisymm hi hg
    subst hi'
    obtain ⟨f0, f1, f2, f3, f4, f5⟩ := hf it (by simp)
    have D := Draws.text (prog := X.prog) (w := X.w) (A := X.A.in1) (by exact I.ok.hd hc) it x t
    exact wpAny_pyNext_enum_endD D he hit fun h' eb => ⟨rfl, I.turned (t' := s.toks) (fun b o hb q => eb b o hb q) f0 f1 f3 f4 f5⟩
  self := fun A i s Q E st h => let ⟨⟨_, he⟩, _⟩ := st; wpAny_pyIter_enum he h
def iEnumS (ta : TA) : TI := fun σ H R => ta σ H fun vs H1 => ∃ x, vs = [.str x] ∧ R (IteS x) H1
theorem pi_enumS {e : Expr} {ta : TA} {p pos tpos : Pos} {elts : List Expr} {kk : Nat} (hg : Gl X "enumerate") (hm : X.mg "enumerate" = none) (ha : PA X [e] ta) (hs : starEach [e] X.env = [(false, eval e X.env)] := by rfl) :
    PI X (.Tuple elts kk tpos) (.Call (.Name "enumerate" p) [e] [] pos) (iEnumS ta) := by
  refine ⟨fun pins s σ H R I h => ?_⟩
  refine Call_ (ld_blt I hg hm boot_enumerate (PyProof.Rows.callWith_type1 (thn (ha.run pos pins s σ H _ I h) fun us s1 ⟨vs, H1, I1, r1, q1⟩ => ?_) hs rfl))
  obtain ⟨x, ex, q⟩ := q1
  subst ex
  cases r1 with
  | cons r rr =>
    cases rr
    obtain ⟨t, rfl⟩ := r
    refine call_enumerate_str fun h' he hit hsz hk => wpAny_pyIter_enum he ?_
    have I2 : Inv X pins σ H1 { s1 with heap := h' } := I1.kept (t' := s1.toks) hk
    refine ⟨s1.heap.objs.size + 1, [s1.heap.objs.size + 1, s1.heap.objs.size], _, _, H1, rfl, I2, turn_enumS x t (s1.heap.objs.size + 1) s1.heap.objs.size, ⟨⟨.none, he⟩, hit, Nat.zero_le _, Nat.succ_ne_self _⟩, fun b hb => ?_, q⟩
    have e' : b = s1.heap.objs.size + 1 ∨ b = s1.heap.objs.size := by simpa using hb
    have hle : s1.heap.objs.size ≤ b := by
      rcases e' with z | z
      · rw [z]; exact Nat.le_add_right _ _
      · rw [z]; exact Nat.le_refl _
    exact I1.fpOk hle (I1.hok.fresh hle)
theorem walk_enumS {z : Str} : Walk (IteS z) z.cps.size (fun _ => True) (fun i H v H' => ∃ T c, v = .ref T ∧ H T = none ∧ z.cps[i]? = some c ∧ H' = upd H T (.tup [.int (i : Nat), .str ⟨#[c]⟩])) :=
  ⟨fun _ _ hi _ => hi, fun _ _ => Nat.le_refl _, fun _ _ _ _ _ _ y => y⟩
end
end L2
end of_RxOps

section of_RxDef
set_option maxRecDepth 100000
set_option maxHeartbeats 4000000
/-! A def of the text as one thing: where it stands, its promise, its call. -/
namespace L2
open PySem PySem.Spec PyProof.Rows
/-- the def x of the text st, its parameters ps -/
def DefT (K : PySem.W.Frag) (mg : Str → Option Value) (x : Str) (st : Stmt) (ps : List Str) : Prop := ∃ f fd, Fun K x x st f fd ∧ mg x = some (.ref f) ∧ Binds K fd ps []
/-- the def x keeps the promise sp, by level k -/
def DefAt (P : Program) (w : World) (K : PySem.W.Frag) (mg : Str → Option Value) (base : Heap) (CX : CXT) (k : Nat) (x : Str) (ps : List Str) (sp : Sp) : Prop :=
  ∃ f fd, FnOk P w K mg base CX k f fd ps sp ∧ mg x = some (.ref f) ∧ PySem.W.keepIn K (.ref f) = true ∧ Binds K fd ps []
section
variable {P : Program} {w : World} {K : PySem.W.Frag} {mg : Str → Option Value} {base : Heap} {x : Str} {st : Stmt} {N ps : List Str} {k : Nat} {sp : Sp}
theorem DefT.ok (D : DefT K mg x st ps) (S : FnScope N ps (defScope st)) (len : ∀ vs H Q E, sp vs H Q E → vs.length = ps.length)
    (hbody : ∀ (f : Addr) (cdv : Value) (A : Around) (outer : List Env) (s : Shared) (H : Hp) (vs : List V) (Q : VK) (E : XK), Room k (A.deeper (envOfC x (defScope st) s.heap.objs.size f cdv)) → sp vs H Q E →
      ∃ t, PSs (cxOf CX0 P w K mg base N x (defScope st) f cdv A outer s H E).nox (defBody st) t ∧ t { nx := fun _ H' => Q .non H', rt := Q } (start N vs) H) : DefAt P w K mg base CX0 (k + 1) x ps sp := by
  obtain ⟨f, fd, F, g, b⟩ := D
  exact ⟨f, fd, F.ok S len (fun cdv A outer s H vs Q E hr h => hbody f cdv A outer s H vs Q E hr h), g, F.kp, b⟩
theorem DefT.okX (D : DefT K mg x st ps) (S : FnScope N ps (defScope st)) (len : ∀ vs H Q E, sp vs H Q E → vs.length = ps.length)
    (hbody : ∀ (f : Addr) (cdv : Value) (A : Around) (outer : List Env) (s : Shared) (H : Hp) (vs : List V) (Q : VK) (E : XK), Room k (A.deeper (envOfC x (defScope st) s.heap.objs.size f cdv)) → sp vs H Q E →
      ∃ t, PSs (cxOf (L2.CX P w) P w K mg base N x (defScope st) f cdv A outer s H E) (defBody st) t ∧ t { nx := fun _ H' => Q .non H', rt := Q } (start N vs) H) : DefAt P w K mg base (L2.CX P w) (k + 1) x ps sp := by
  obtain ⟨f, fd, F, g, b⟩ := D
  exact ⟨f, fd, F.okX S len (fun cdv A outer s H vs Q E hr h => hbody f cdv A outer s H vs Q E hr h), g, F.kp, b⟩
theorem DefAt.imp {CX : CXT} {sp' : Sp} (D : DefAt P w K mg base CX k x ps sp) (h : ∀ vs H Q E, sp' vs H Q E → sp vs H Q E) : DefAt P w K mg base CX k x ps sp' := by
  obtain ⟨f, fd, F, r⟩ := D
  exact ⟨f, fd, F.imp h, r⟩
end
section
variable {X : Cx} {x : Str} {ps : List Str} {sp : Sp} {k j : Nat} {e : Expr} {es : List Expr} {t : TA} {p pos : Pos}
/-- f(e, ..), f letting nothing out -/
theorem pe_d (c : DefAt X.prog X.w X.K X.mg X.base CX0 k x ps sp) (hr : Room j X.A) (hk : k ≤ j) (hg : Gl X x) (ha : PA X (e :: es) t) (hd : (x == ("__debug__" : Str)) = false := by decide)
    (he : starEach (e :: es) X.env = (false, eval e X.env) :: starEach es X.env := by rfl) (hpl : (backTo pos (starEach es X.env)).any (·.1) = false := by rfl) : PE X (.Call (.Name x p) (e :: es) [] pos) (tCall sp [] E0 t) := by
  obtain ⟨f, fd, F, g, kp, b⟩ := c
  exact pe_call F (hr.mono hk) hg g kp b .nil pass0 ha hd he hpl
theorem pe_d0 (c : DefAt X.prog X.w X.K X.mg X.base CX0 k x ps sp) (hr : Room j X.A) (hk : k ≤ j) (hg : Gl X x) (hd : (x == ("__debug__" : Str)) = false := by decide) : PE X (.Call (.Name x p) [] [] pos) (tCall sp [] E0 tNil) := by
  obtain ⟨f, fd, F, g, kp, b⟩ := c
  exact pe_call0 F (hr.mono hk) hg g kp b .nil pass0 hd
/-- f(e, ..), where what f lets out is wished for at the slots -/
theorem pe_dS {E : St → XK} (c : DefAt X.prog X.w X.K X.mg X.base (L2.CX X.prog X.w) k x ps sp) (hr : Room j X.A) (hk : k ≤ j) (hg : Gl X x) (hx : ∀ σ, PassesAt (L2.CX X.prog X.w) X σ (E σ)) (ha : PA X (e :: es) t) (hd : (x == ("__debug__" : Str)) = false := by decide)
    (he : starEach (e :: es) X.env = (false, eval e X.env) :: starEach es X.env := by rfl) (hpl : (backTo pos (starEach es X.env)).any (·.1) = false := by rfl) : PE X (.Call (.Name x p) (e :: es) [] pos) (tCallS sp E t) := by
  obtain ⟨f, fd, F, g, kp, b⟩ := c
  exact pe_callS F (hr.mono hk) hg g kp b hx ha hd he hpl
end
end L2
namespace Rx
open PySem
theorem b_len : bootBuiltins "len" = some (.builtin "len") := by decide +kernel
theorem b_isinstance : bootBuiltins "isinstance" = some (.builtin "isinstance") := by decide +kernel
theorem b_abs : bootBuiltins "abs" = some (.builtin "abs") := by decide +kernel
theorem b_sum : bootBuiltins "sum" = some (.builtin "sum") := by decide +kernel
theorem b_int : bootBuiltins "int" = some (.type "int") := by decide +kernel
theorem b_str : bootBuiltins "str" = some (.type "str") := by decide +kernel
theorem b_bool : bootBuiltins "bool" = some (.type "bool") := by decide +kernel
theorem b_tuple : bootBuiltins "tuple" = some (.type "tuple") := by decide +kernel
theorem b_list : bootBuiltins "list" = some (.type "list") := by decide +kernel
theorem b_dict : bootBuiltins "dict" = some (.type "dict") := by decide +kernel
/-- the built-ins stand in the module as they are -/
structure Bts (mg : Str → Option Value) : Prop where
  len_ : mg "len" = none
  isinstance_ : mg "isinstance" = none
  abs_ : mg "abs" = none
  sum_ : mg "sum" = none
  int_ : mg "int" = none
  str_ : mg "str" = none
  bool_ : mg "bool" = none
  tuple_ : mg "tuple" = none
  list_ : mg "list" = none
  dict_ : mg "dict" = none
  range_ : mg "range" = none
  enumerate_ : mg "enumerate" = none
  zip_ : mg "zip" = none
end Rx
end of_RxDef

section of_RxBox
set_option maxRecDepth 100000
set_option maxHeartbeats 4000000
/-! Data in the heap, flat lists compared, a law's source of draws. -/
namespace L2
open PySem PySem.Spec PyProof.Rows
/-- all but b stays -/
def ExB (b : Addr) (H H' : Hp) : Prop := ∀ a o, H a = some o → a ≠ b → H' a = some o
theorem ExB.refl (b : Addr) (H : Hp) : ExB b H H := fun _ _ h _ => h
theorem ExB.trans {b : Addr} {H H1 H2 : Hp} (a : ExB b H H1) (c : ExB b H1 H2) : ExB b H H2 := fun x o h n => c x o (a x o h n) n
theorem ExB.of {b : Addr} {H H' : Hp} (e : Evl.Ex H H') : ExB b H H' := fun x o h _ => e x o h
theorem ExB.put {b : Addr} {H H' : Hp} {o : HO} (e : ExB b H H') : ExB b H (upd H' b o) := fun x u h n => by
  rw [upd_ne n]
  exact e x u h n
theorem ExB.new {b p : Addr} {H H' : Hp} {o : HO} (e : ExB b H H') (h : H' p = none) : ExB b H (upd H' p o) := fun x u hx n => by
  have z := e x u hx n
  rw [upd_ne (ne_of_none z h)]
  exact z
/-- a new box: nothing that was there changes -/
theorem ExB.ex {b : Addr} {H H1 H2 : Hp} (n : H b = none) (e : Evl.Ex H H1) (c : ExB b H1 H2) : Evl.Ex H H2 := fun x o h => c x o (e x o h) (ne_of_none h n)
theorem ExB.seq {K : PySem.W.Frag} {b a : Addr} {H H' : Hp} {xs : List V} (e : ExB b H H') (h : SqL K H a xs) (n : a ≠ b) : SqL K H' a xs := by
  rcases h with (h | ⟨o, h⟩) | h
  · exact .inl (.inl (e _ _ h n))
  · exact .inl (.inr ⟨o, e _ _ h n⟩)
  · exact .inr h
theorem ExB.set {K : PySem.W.Frag} {b a : Addr} {H H' : Hp} {xs : List V} (e : ExB b H H') (h : SqT K H a xs) (n : a ≠ b) : SqT K H' a xs := by
  rcases h with (h | ⟨o, h⟩) | h
  · exact .inl (.inl (e _ _ h n))
  · exact .inl (.inr ⟨o, e _ _ h n⟩)
  · exact .inr h
/-! ### flat data -/
section
variable {K : PySem.W.Frag} {H : Hp}
theorem dp_ints : ∀ ns : List Int, DpAll K H (ns.map V.int) (ns.map PyData.int)
  | [] => .nil
  | n :: ns => .cons (.int n) (dp_ints ns)
theorem dp_strs : ∀ l : List Str, DpAll K H (l.map V.str) (l.map PyData.str)
  | [] => .nil
  | n :: ns => .cons (.str n) (dp_strs ns)
end
theorem lay_ints : ∀ ns : List Int, PyData.canLayAll0 (ns.map PyData.int) = true ∧ PyData.depthAll (ns.map PyData.int) ≤ 1
  | [] => ⟨rfl, by simp [PyData.depthAll]⟩
  | n :: ns => by
    obtain ⟨h1, h2⟩ := lay_ints ns
    refine ⟨?_, ?_⟩
    · simp only [List.map_cons, PyData.canLayAll0, PyData.canLay0, h1, Bool.and_self]
    · simp only [List.map_cons, PyData.depthAll, PyData.depth]
      omega
theorem shaped_ints (ns : List Int) : SeqAt.shaped (.list (ns.map PyData.int)) = true := by
  obtain ⟨h1, h2⟩ := lay_ints ns
  unfold SeqAt.shaped
  refine Bool.and_eq_true_iff.mpr ⟨?_, decide_eq_true ?_⟩
  · simp only [PyData.canLay0, h1]
  · simp only [PyData.depth]
    omega
theorem lay_strs : ∀ l : List Str, (∀ z ∈ l, PyData.strOk z = true) → PyData.canLayAll0 (l.map PyData.str) = true ∧ PyData.depthAll (l.map PyData.str) ≤ 1
  | [], _ => ⟨rfl, by simp [PyData.depthAll]⟩
  | z :: l, h => by
    obtain ⟨h1, h2⟩ := lay_strs l fun y hy => h y (List.mem_cons_of_mem _ hy)
    have hz := h z (List.mem_cons_self ..)
    refine ⟨?_, ?_⟩
    · simp only [List.map_cons, PyData.canLayAll0, PyData.canLay0, h1, hz, Bool.and_self]
    · simp only [List.map_cons, PyData.depthAll, PyData.depth]
      omega
theorem shaped_strs {l : List Str} (h : ∀ z ∈ l, PyData.strOk z = true) : SeqAt.shaped (.list (l.map PyData.str)) = true ∧ SeqAt.shaped (.tuple (l.map PyData.str)) = true := by
  obtain ⟨h1, h2⟩ := lay_strs l h
  refine ⟨Bool.and_eq_true_iff.mpr ⟨?_, decide_eq_true ?_⟩, Bool.and_eq_true_iff.mpr ⟨?_, decide_eq_true ?_⟩⟩
  · simp only [PyData.canLay0, h1]
  · simp only [PyData.depth]
    omega
  · simp only [PyData.canLay0, h1]
  · simp only [PyData.depth]
    omega
theorem shaped_nil : SeqAt.shaped (.list []) = true := by decide +kernel
theorem eqv_nil (ds : List PyData) : PyData.eqv (.list ds) (.list []) = ds.isEmpty := by
  cases ds <;> simp [PyData.eqv, PyData.eqvAll]
/-! ### data stays where the heap grows -/
mutual
theorem Dp.ex {K : PySem.W.Frag} {H H' : Hp} (e : Evl.Ex H H') : ∀ (d : PyData) (v : V), Dp K H v d → Dp K H' v d
  | _, _, .non => .non
  | _, _, .bl b => .bl b
  | _, _, .int i => .int i
  | _, _, .str x => .str x
  | .list ds, _, .lst h a => .lst (Evl.ex_l e h) (DpAll.ex e ds _ a)
  | .tuple ds, _, .tup h a => .tup (Evl.ex_t e h) (DpAll.ex e ds _ a)
theorem DpAll.ex {K : PySem.W.Frag} {H H' : Hp} (e : Evl.Ex H H') : ∀ (ds : List PyData) (vs : List V), DpAll K H vs ds → DpAll K H' vs ds
  | [], _, .nil => .nil
  | d :: ds, _, .cons h a => .cons (Dp.ex e d _ h) (DpAll.ex e ds _ a)
end
theorem DpAll.len {K : PySem.W.Frag} {H : Hp} : ∀ {vs : List V} {ds : List PyData}, DpAll K H vs ds → vs.length = ds.length
  | _, _, .nil => rfl
  | _, _, .cons _ a => by rw [List.length_cons, List.length_cons, DpAll.len a]
theorem DpAll.get {K : PySem.W.Frag} {H : Hp} : ∀ {vs : List V} {ds : List PyData} {i : Nat} {v : V}, DpAll K H vs ds → vs[i]? = some v → ∃ d, ds[i]? = some d ∧ Dp K H v d
  | _, _, _, _, .nil, h => by simp at h
  | _, _, 0, _, .cons h a, e => by
    cases (Option.some.inj e)
    exact ⟨_, rfl, h⟩
  | _, _, i + 1, _, .cons h a, e => DpAll.get (i := i) a e
mutual
/-- texts, numbers, bools, None, and tuples of these, at most so deep -/
inductive PlT : PyData → Nat → Prop
  | non {n : Nat} : PlT .none n
  | bl {b : Bool} {n : Nat} : PlT (.bool b) n
  | int {i : Int} {n : Nat} : PlT (.int i) n
  | str {z : Str} {n : Nat} : PlT (.str z) n
  | tup {ds : List PyData} {n : Nat} : PlTs ds n → PlT (.tuple ds) (n + 1)
inductive PlTs : List PyData → Nat → Prop
  | nil {n : Nat} : PlTs [] n
  | cons {d : PyData} {ds : List PyData} {n : Nat} : PlT d n → PlTs ds n → PlTs (d :: ds) n
end
theorem PlTs.get : ∀ {ds : List PyData} {n i : Nat} {d : PyData}, PlTs ds n → ds[i]? = some d → PlT d n
  | _, _, _, _, .nil, h => by simp at h
  | _, _, 0, _, .cons h a, e => by
    cases (Option.some.inj e)
    exact h
  | _, _, i + 1, _, .cons h a, e => PlTs.get (i := i) a e
theorem PlTs.strs : ∀ {l : List Str} {n : Nat}, PlTs (l.map PyData.str) n
  | [], _ => .nil
  | _ :: _, _ => .cons .str PlTs.strs
/-- which class a told value is of -/
theorem Dp.ty {K : PySem.W.Frag} {H : Hp} {v : V} {d : PyData} : Dp K H v d → TyX K H v (match d with | .none => .type "NoneType" | .bool _ => .type "bool" | .int _ => .type "int" | .str _ => .type "str" | .list _ => .type "list" | .tuple _ => .type "tuple" | .dict _ => .none)
  | .non => .base .non
  | .bl b => .base (.bl b)
  | .int i => .base (.int i)
  | .str x => .base (.str x)
  | .lst h _ => by
    rcases h with (h | ⟨o, h⟩) | ⟨o, its, n, h1, h2, _⟩
    · exact .base (.lst h)
    · exact .base (.frz h)
    · exact .kList h1 h2
  | .tup h _ => by
    rcases h with (h | ⟨o, h⟩) | ⟨o, its, n, h1, h2, _⟩
    · exact .base (.tup h)
    · exact .fTuple h
    · exact .kTuple h1 h2
theorem walk_zipT {K : PySem.W.Frag} {a b : Addr} {xs ys : List V} {n : Nat} (h1 : n = xs.length) (h2 : n = ys.length) : Walk (RZ.ItzT K a b) n (fun H => SqT K H a xs ∧ SqT K H b ys) (YPair (fun i => xs[i]?) (fun i => ys[i]?)) := by
  refine ⟨fun i _ hi q => ?_, fun _ q => ⟨xs, ys, q.1, q.2, by omega⟩, fun i H v H' _ q y => ?_⟩
  · have g1 : i < xs.length := by omega
    have g2 : i < ys.length := by omega
    exact ⟨xs, ys, xs[i], ys[i], q.1, q.2, by simp [g1], by simp [g2]⟩
  · obtain ⟨T, x, z, e1, e2, e3, e4, e5⟩ := y
    exact ⟨T, x, z, e1, e2, e3, e4 xs q.1, e5 ys q.2⟩
/-! ### what _law_is asks for -/
/-- told and due are the same data -/
def spIs (K : PySem.W.Frag) (n : Nat) : Sp := fun vs H Q _ => ∃ (x y : V) (d : PyData), vs = [x, y] ∧ Dp K H x d ∧ Dp K H y d ∧ PlT d n ∧ ∀ H', Evl.Ex H H' → Q (.bl true) H'
def spIsN (K : PySem.W.Frag) : Nat → Sp
  | 0 => fun _ _ _ _ => False
  | n + 1 => spIs K n
theorem DefT.zero {P : Program} {w : World} {K : PySem.W.Frag} {mg : Str → Option Value} {base : Heap} {CX : CXT} {x : Str} {st : Stmt} {ps : List Str} (D : DefT K mg x st ps) : DefAt P w K mg base CX 0 x ps (fun _ _ _ _ => False) := by
  obtain ⟨f, fd, F, g, b⟩ := D
  exact ⟨f, fd, ⟨fun _ _ _ _ h => h.elim, fun _ _ _ _ _ _ _ _ _ _ _ _ _ h => h.elim⟩, g, F.kp, b⟩
end L2
end of_RxBox

section of_RxImp
set_option maxRecDepth 100000
set_option maxHeartbeats 4000000
/-! Readings exchanged for plainer ones; lists cut at their last. -/
namespace L2
open PySem PySem.Spec PyProof.Rows
section
variable {X : Cx}
theorem PE.imp {e : Expr} {t t' : TE} (h : PE X e t) (k : ∀ σ H Q, t' σ H Q → t σ H Q) : PE X e t' := ⟨fun pins s σ H Q I hw => h.run pins s σ H Q I (k σ H Q hw)⟩
theorem PT.imp {e : Expr} {t t' : TT} (h : PT X e t) (k : ∀ σ H Q, t' σ H Q → t σ H Q) : PT X e t' := ⟨fun pins s σ H Q I hw => h.run pins s σ H Q I (k σ H Q hw)⟩
theorem PS.imp {e : Stmt} {t t' : TS} (h : PS X e t) (k : ∀ D σ H, t' D σ H → t D σ H) : PS X e t' := ⟨fun pins s σ H D I hw => h.run pins s σ H D I (k D σ H hw)⟩
theorem PSs.imp {e : List Stmt} {t t' : TS} (h : PSs X e t) (k : ∀ D σ H, t' D σ H → t D σ H) : PSs X e t' := ⟨fun pins s σ H D I hw => h.run pins s σ H D I (k D σ H hw)⟩
/-- what flies is wished for where the slots are as many as the names -/
theorem Takes.len {W : WX} (t : Takes X W) : Takes X (fun c d σ H => σ.length = X.N.length → W c d σ H) := fun u s' ⟨a, B, sI, pins, σ, H, cls, d, e, I, nb, up, sky, na, os, ag, w⟩ =>
  t u s' ⟨a, B, sI, pins, σ, H, cls, d, e, I, nb, up, sky, na, os, ag, w I.len⟩
end
theorem cutLast (xs : List V) : cutV xs none (some (-1)) = xs.dropLast := by
  unfold cutV
  have e1 : HT.sIx xs.length 0 none = 0 := rfl
  have e2 : HT.sIx xs.length xs.length (some (-1)) = xs.length - 1 := by
    unfold HT.sIx
    cases xs with
    | nil => rfl
    | cons x r =>
      simp only [List.length_cons]
      show _ = _
      simp
      omega
  rw [e1, e2, List.dropLast_eq_take]
  simp
end L2
end of_RxImp

section of_RxLam
set_option maxRecDepth 100000
set_option maxHeartbeats 4000000
/-! Lambdas handed to a def of the text; a def whose code object is known. -/
namespace L2
open PySem PySem.Spec PyProof.Rows
/-- the def x of the text, its code object at c -/
def DefF (K : PySem.W.Frag) (x : Str) (st : Stmt) (c f : Addr) (fd : FuncData) : Prop :=
  ∃ (oc : Value) (od : Option Addr) (kV doc pm : Value) (an : Option Addr) (ct : Value) (osl : Array (Option Value)),
    fd = PySem.W.fnOf x x (defArgs st) (defBody st) (defScope st) .none kV doc pm an (.ref c) ct ∧ K.lookup f = some ⟨oc, od, .func fd, osl⟩ ∧ PySem.W.codeIn K (.ref c) x = true
theorem DefT.fn {K : PySem.W.Frag} {mg : Str → Option Value} {x : Str} {st : Stmt} {ps : List Str} (D : DefT K mg x st ps) : ∃ (f : Addr) (oc : Value) (od : Option Addr) (kV doc pm : Value) (an : Option Addr) (cdv ct : Value) (osl : Array (Option Value)),
    K.lookup f = some ⟨oc, od, .func (PySem.W.fnOf x x (defArgs st) (defBody st) (defScope st) .none kV doc pm an cdv ct), osl⟩ ∧ PySem.W.codeIn K cdv x = true ∧ PySem.W.keepIn K (.ref f) = true ∧ mg x = some (.ref f) ∧
    Binds K (PySem.W.fnOf x x (defArgs st) (defBody st) (defScope st) .none kV doc pm an cdv ct) ps [] := by
  obtain ⟨f, fd, F, g, b⟩ := D
  have kp := F.kp
  obtain ⟨oc, od, kV, doc, pm, an, cdv, ct, osl, rfl, lk, hcd⟩ := F.ex
  exact ⟨f, oc, od, kV, doc, pm, an, cdv, ct, osl, lk, hcd, kp, g, b⟩
section
variable {P : Program} {w : World} {K : PySem.W.Frag} {mg : Str → Option Value} {base : Heap} {x : Str} {st : Stmt} {N ps : List Str} {k : Nat} {sp : Sp}
theorem DefF.ok {c f : Addr} {fd : FuncData} (D : DefF K x st c f fd) (S : FnScope N ps (defScope st)) (len : ∀ vs H Q E, sp vs H Q E → vs.length = ps.length)
    (hbody : ∀ (A : Around) (outer : List Env) (s : Shared) (H : Hp) (vs : List V) (Q : VK) (E : XK), Room k (A.deeper (envOfC x (defScope st) s.heap.objs.size f (.ref c))) → sp vs H Q E →
      ∃ t, PSs (cxOf CX0 P w K mg base N x (defScope st) f (.ref c) A outer s H E).nox (defBody st) t ∧ t { nx := fun _ H' => Q .non H', rt := Q } (start N vs) H) : FnOk P w K mg base CX0 (k + 1) f fd ps sp := by
  obtain ⟨oc, od, kV, doc, pm, an, ct, osl, rfl, lk, hcd⟩ := D
  refine fn_of lk hcd S len fun A outer s H vs Q E hr hsp => ?_
  obtain ⟨t, h, q⟩ := hbody A outer s H vs Q E hr hsp
  exact ⟨t, h.nox, q⟩
end
theorem passNo {X : Cx} : ∀ σ : St, PassesAt (L2.CX X.prog X.w) X σ E0 := fun _ _ _ _ _ _ _ x => by
  obtain ⟨_, _, _, _, _, _, _, _, _, _, _, _, z⟩ := x
  exact z.elim
end L2
namespace LamX
open PySem PySem.Spec PyProof.Rows L2
/-- x(lambda: body), x a def of the text of one parameter that calls it -/
theorem pe_lamD {X : Cx} {TT : (XK → Hp → VK → Prop) → Hp → VK → Prop} {x a : Str} {st : Stmt} {Ng : List Str} {c Pt : Addr} {k : Nat} {params : Arguments} {body : Expr} {scope : Scope} {t : XK → TE} {p lpos pos : Pos}
    (D : DefT X.K X.mg x st [a]) (Sg : FnScope Ng [a] (defScope st)) (hG : ∀ (g : Addr) (cdg : Value), GivesTo X Ng x (defScope st) g cdg (defBody st) a (X.env.qual ++ "<lambda>") TT) (TB : TabB X.base X.mg c Pt) (hg : Gl X x) (hr : Room (k + 2) X.A)
    (L : LamS X.env.scope scope) (hbody : ∀ (A : Around) (outer : List Env) (s : Shared) (H : Hp) (E : XK) (f c' : Addr), Room k (A.deeper (lamEnv X scope s.heap.objs.size f c')) → PE (lamCx X A outer s H E scope f c') body (t E))
    (hNg : Ng[0]? = some a := by rfl) (hva : Vis (defScope st) a := by exact Or.inl rfl) (hcode : X.env.code = .ref c := by rfl) (hdef : defaultsOf params X.env = ([], []) := by rfl)
    (hbind : ∀ (q : Str) (cl : List (Str × Addr)) (pm cv ctv : Value), bindArgs (PySem.W.kla_fn "<lambda>" q params body scope cl pm cv ctv) ⟨[], []⟩ = pure [] := by intros; rfl)
    (hdb : (x == ("__debug__" : Str)) = false := by decide) (hd : (a == ("__debug__" : Str)) = false := by decide) (hcd : (a == ("__classdict__" : Str)) = false := by decide) :
    PE X (.Call (.Name x p) [.Lambda params body scope lpos] [] pos) (tLam [(Pt, X.env.qual ++ "<lambda>")] TT t) := by
  obtain ⟨g, oc, od, kV, doc, pm, an, cdv, ct, osl, lk, hcg, kp, hm, hb⟩ := D.fn
  exact pe_lamcall hg hm kp lk hcg hb Sg hNg hva (hG g cdv) TB hcode (by simp) (fun p hp _ => by rw [List.mem_singleton.mp hp]) hr L hdef hbind hbody hdb hd hcd
end LamX
end of_RxLam

section of_RxHead
set_option maxRecDepth 100000
set_option maxHeartbeats 4000000
/-! A head by facts for laws over own exceptions: the Hook tells the defs, the classes' __init__s, the tables. -/
namespace Rx
open PySem PySem.Spec PyProof.Rows L2 He
/-! ### the defs -/
/-- a def at the top, of no defaults -/
def dAt (x : Str) (st : Stmt) : DefD := ⟨(x, none), x, x, defArgs st, defBody st, defScope st, [], []⟩
theorem fun_of {K : PySem.W.Frag} {x : Str} {st : Stmt} {f : Addr} {fd : FuncData} (F : FunD K x x (defArgs st) (defBody st) (defScope st) [] [] f fd) : Fun K x x st f fd := by
  obtain ⟨oc, od, dV, kV, doc, pm, an, cdv, ct, osl, e, lk, hc, hd, _⟩ := F.ex
  have e0 : dV = .none := by
    rcases hd with ⟨_, h⟩ | ⟨h, _⟩
    · exact h
    · exact absurd rfl h
  subst e0
  exact ⟨⟨oc, od, kV, doc, pm, an, cdv, ct, osl, e, lk, hc⟩, F.kp⟩
/-! ### an exception's __init__ -/
abbrev FnC : Type := Option (Str × Str × Arguments × FuncBody × Scope × Addr × Addr)
def fnC (K : PySem.W.Frag) (p : Str × Option Str) : FnC := match K.lookup (fAd K p) with
  | some ⟨_, _, .func fd, _⟩ => some (fd.name, fd.qualname, fd.params, fd.body, fd.scope, fd.globals, fd.builtins)
  | _ => none
/-- an exception's class by its name, what its __init__ keeps, the __init__ in the text -/
structure ExD where
  x : Str
  fs : List Str
  ini : Stmt
def ExD.qual (d : ExD) : Str := d.x ++ ".__init__"
def ExD.at_ (d : ExD) : Str × Option Str := (d.x, some "__init__")
def ExD.val (d : ExD) : FnC := some ("__init__", d.qual, defArgs d.ini, .stmts (defBody d.ini), defScope d.ini, mainGlobals, builtinsNs)
/-- the __init__ of a class statement -/
def initOf : Stmt → Stmt
  | .ClassDef _ _ _ body _ _ _ _ _ _ _ => body.getD 0 (.Pass ⟨0, 0, 0, 0⟩)
  | s => s
/-- what an __init__'s body keeps -/
def keepsIn : List Stmt → List (Str × XPos)
  | .Assign [.Attribute (.Name _ p1) f p2] (.Name _ p3) p4 :: r => (f, p1, p2, p3, p4) :: keepsIn r
  | _ => []
/-- what the text says of it -/
structure ExS (d : ExD) : Prop where
  ex : ∃ (ns : List (Str × NameKind)) (ar : Arg) (txt : Str) (j : Nat) (p0 p1 p2 p3 p4 p5 : Pos) (l : List (Str × XPos)), defScope d.ini = dsc ns ∧ defBody d.ini = superOf txt j p0 p1 p2 p3 p4 p5 :: keepsOf l ∧
    ((defArgs d.ini).posonlyargs ++ (defArgs d.ini).args).head? = some ar ∧ ar.arg = "self" ∧ l.map (·.1) = d.fs ∧
    ns.lookup ("super" : Str) = some .globalImplicit ∧ ns.lookup ("__class__" : Str) = some .free ∧ (∀ y ∈ ns, y.2 ≠ .cell) ∧ (∀ y ∈ ("self" : Str) :: d.fs, ns.lookup y = some .local) ∧ (("self" : Str) :: d.fs).Nodup ∧ d.fs.length ≤ 100 ∧ (∀ y ∈ d.fs, (y == ("__debug__" : Str)) = false) ∧
    (∀ (L fI cda cc : Addr), SuperGoes txt j p0 p1 p2 p3 p4 (PySem.W.ksEnv d.qual (dsc ns) L fI (.ref cda) cc))
  bind : ∀ (kV doc pm ct : Value) (an : Option Addr) (cda cc : Addr) (us : List Value), us.length = d.fs.length + 1 → bindArgs (PySem.W.ksFn "__init__" d.qual (defArgs d.ini) (defBody d.ini) (defScope d.ini) .none kV doc pm an (.ref cda) ct cc) ⟨us, []⟩ = pure ((("self" : Str) :: d.fs).zip us)
def xB1 (K : PySem.W.Frag) (C : Addr) (fs : List Str) : Bool := PySem.W.excInitIn K C xTail "Exception.__new__" && (PySem.W.excOver K C xTail && (eqO (PySem.W.findIn K (.ref C) "__setattr__") (some (some (.builtin "object.__setattr__"))) && (fs.all (fun f => eqO (PySem.W.findIn K (.ref C) f) (some none)) && PySem.W.hasDictIn K C)))
theorem xB1_ok {K : PySem.W.Frag} {C : Addr} {fs : List Str} (h : xB1 K C fs = true) : XCls K C fs := by
  obtain ⟨h1, h⟩ := ba h
  obtain ⟨h2, h⟩ := ba h
  obtain ⟨h3, h⟩ := ba h
  obtain ⟨h4, h5⟩ := ba h
  exact ⟨h1, h2, eqO_ok h3, fun f hf => eqO_ok (List.all_eq_true.mp h4 f hf), h5⟩
def xB2 (K : PySem.W.Frag) (x : Str) (C fI : Addr) : Bool := eqO (PySem.W.nsIn K mainGlobals x) (some (some (.ref C))) && (eqO (PySem.W.findIn K (.ref C) "__init__") (some (some (.ref fI))) && (decide (PySem.W.typeIn K (.ref fI) = some (.type "function")) && (PySem.W.keepIn K (.ref C) &&
  (decide (PySem.W.subIn K (.ref C) (.type "BaseException") = some true) && (decide (PySem.W.subIn K (.ref C) (.type "Exception") = some true) && (decide (PySem.W.typeIn K (.ref C) = some (.type "type")) && (eqO (PySem.W.nsIn K cStatics "thirdparty.any") (some none) &&
  (eqO (PySem.W.ks_superIn K C C "__init__") (some (some (.builtin "Exception.__init__"))) && decide (PySem.W.mroIn K C (.ref C) = some true)))))))))
/-- its code object, its cell -/
def xB3 (K : PySem.W.Frag) (C fI : Addr) (qual file : Str) : Bool := match K.lookup fI with
  | some ⟨_, _, .func fd, _⟩ => (match fd.defaults with
    | .none => (match fd.code with
      | .ref cda => PySem.W.codeIn K (.ref cda) qual && (match K.lookup cda with
        | some ⟨_, _, .fields vs, _⟩ => (match (vs[2]? : Option Value) with
          | some (.str f _) => file == f
          | _ => false)
        | _ => false)
      | _ => false)
    | _ => false) && (match fd.closure with
      | [(n, cc)] => decide (n = "__class__") && (match K.lookup cc with
        | some ⟨_, _, .cell (some (.ref b)), _⟩ => decide (b = C)
        | _ => false)
      | _ => false)
  | _ => false
def ExD.ok (d : ExD) (file : Str) (K : PySem.W.Frag) : Bool := xB1 K (ga K d.x) d.fs && (xB2 K d.x (ga K d.x) (ma K (ga K d.x) "__init__") && xB3 K (ga K d.x) (ma K (ga K d.x) "__init__") d.qual file)
theorem xB3_ok {K : PySem.W.Frag} {C fI : Addr} {qual file : Str} (h : xB3 K C fI qual file = true) : ∃ (oc : Value) (od : Option Addr) (fd : FuncData) (osl : Array (Option Value)) (cda cc : Addr), K.lookup fI = some ⟨oc, od, .func fd, osl⟩ ∧ fd.defaults = .none ∧ fd.code = .ref cda ∧ fd.closure = [(("__class__" : Str), cc)] ∧ PySem.W.codeIn K (.ref cda) qual = true ∧
    (∃ (ccl : Value) (cdd : Option Addr) (vs : Array Value) (ccs : Array (Option Value)) (f : Str) (tf : Tok), K.lookup cda = some ⟨ccl, cdd, .fields vs, ccs⟩ ∧ vs[2]? = some (.str f tf) ∧ (file == f) = true) ∧
    ∃ (cl : Value) (cld : Option Addr) (csl : Array (Option Value)), K.lookup cc = some ⟨cl, cld, .cell (some (.ref C)), csl⟩ := by
  unfold xB3 at h
  split at h
  · rename_i oc od fd osl hl
    obtain ⟨h1, h2⟩ := ba h
    split at h1
    · rename_i hd
      split at h1
      · rename_i cda hc
        obtain ⟨h3, h4⟩ := ba h1
        split at h4
        · rename_i ccl cdd vs ccs hv
          split at h4
          · rename_i f tf hf
            split at h2
            · rename_i n cc hcl
              obtain ⟨h5, h6⟩ := ba h2
              split at h6
              · rename_i cl cld b csl hb
                have e1 := of_decide_eq_true h5
                have e2 := of_decide_eq_true h6
                subst e1 e2
                exact ⟨oc, od, fd, osl, cda, cc, hl, hd, hc, hcl, h3, ⟨ccl, cdd, vs, ccs, f, tf, hv, hf, h4⟩, cl, cld, csl, hb⟩
              · cases h6
            · cases h2
          · cases h4
        · cases h4
      · cases h1
    · cases h1
  · cases h
theorem ExD.txt {P : Program} {K : PySem.W.Frag} {h : Heap} {mg : Str → Option Value} {d : ExD} (S : ExS d) (X : K.In h) (G : h.Ns mainGlobals mg) (gS : mg "super" = none) (hP : (P.main.scope.names.lookup ("super" : Str)).isSome = false) (e : fnC K d.at_ = d.val) (c : d.ok P.main.file K = true) :
    XTxt P K mg (ga K d.x) (ma K (ga K d.x) "__init__") d.x d.fs := by
  obtain ⟨c1, c⟩ := ba c
  obtain ⟨c2, c3⟩ := ba c
  obtain ⟨b1, c2⟩ := ba c2
  obtain ⟨b2, c2⟩ := ba c2
  obtain ⟨b3, c2⟩ := ba c2
  obtain ⟨b4, c2⟩ := ba c2
  obtain ⟨b5, c2⟩ := ba c2
  obtain ⟨b6, c2⟩ := ba c2
  obtain ⟨b7, c2⟩ := ba c2
  obtain ⟨b8, c2⟩ := ba c2
  obtain ⟨b9, b10⟩ := ba c2
  obtain ⟨oc, od, fd, osl, cda, cc, hl, hd, hc, hcl, hci, ⟨ccl, cdd, vs, ccs, f, tf, hv, hf, hff⟩, cl, cld, csl, hcell⟩ := xB3_ok c3
  have hl' : K.lookup (fAd K d.at_) = some ⟨oc, od, .func fd, osl⟩ := hl
  unfold fnC at e
  rw [hl'] at e
  obtain ⟨n1, n2, n3, n4, n5, n6, n7, n8, n9, n10, n11, n12, n13, n14, n15⟩ := fd
  have e2 : (some (n1, n2, n3, n4, n5, n6, n15) : FnC) = some (("__init__" : Str), d.qual, defArgs d.ini, FuncBody.stmts (defBody d.ini), defScope d.ini, mainGlobals, builtinsNs) := e
  simp only [Option.some.injEq, Prod.mk.injEq] at e2
  obtain ⟨h1, h2, h3, h4, h5, h6, h7⟩ := e2
  have hd : n8 = .none := hd
  have hc : n13 = .ref cda := hc
  have hcl : n7 = [(("__class__" : Str), cc)] := hcl
  subst h1 h2 h3 h4 h5 h6 h7 hd hc hcl
  obtain ⟨ns, ar, txt, j, p0, p1, p2, p3, p4, p5, l, s1, s2, s3, s4, s5, s6, s7, s8, s9, s10, s11, s12, s13⟩ := S.ex
  have sb := S.bind n9 n10 n11 n14 n12 cda cc
  rw [s1, s2] at hl sb
  exact { toXCls := xB1_ok c1, gC := PySem.W.mg_of X G (eqO_ok b1), gS := gS, iC := eqO_ok b2, tI := of_decide_eq_true b3, kC := b4, exC := of_decide_eq_true b5, exE := of_decide_eq_true b6, tyC := of_decide_eq_true b7, opq := eqO_ok b8, sup := eqO_ok b9, slf := of_decide_eq_true b10,
          fn := ⟨d.qual, defArgs d.ini, ns, .none, n9, n10, n11, n14, oc, n12, od, osl, cc, cda, ar, txt, j, p0, p1, p2, p3, p4, p5, l, vs, f, tf, ccl, cl, cdd, cld, ccs, csl, hl, hci, s3, s4, s5, hv, hf, hff, hP, hcell, s6, s7, s8, s9, s10, s11, s12, sb, fun L => s13 L _ cda cc⟩ }
/-! ### the Hook -/
/-- the part of the heap that is told: what the module's names reach in n steps, the classes' statics -/
def KOf (g : Addr → Option Obj) (n : Nat) : PySem.W.Frag := frT g (cStatics :: asD g n)
structure SaysR (fa : List Fa) (fn : List DefD) (xs : List ExD) (tf : List Defn) (ex : PySem.W.Frag → Bool) (h : Heap) (K : PySem.W.Frag) : Prop where
  d : SaysD fa fn K
  more : ex K = true
  ini : xs.map (fun d => fnC K d.at_) = xs.map ExD.val
  hd : ∀ p ∈ tf, PySem.W.codeHdIn K (cT K p).1 (cT K p).2 = true
  out : ∀ p ∈ tf, K.lookup (cT K p).2 = none
  empty : ∀ p ∈ tf, h.get? (cT K p).2 = some { cls := .none, data := .fields #[] }
abbrev AlR : Type := AlD × List FnC × Bool
def obsR (n : Nat) (fa : List Fa) (fn : List DefD) (xs : List ExD) (tf : List Defn) (ex : PySem.W.Frag → Bool) (g : Addr → Option Obj) : AlR := (obsD fa fn (KOf g n), xs.map (fun d => fnC (KOf g n) d.at_), ex (KOf g n) && tabsB g tf (KOf g n))
def valR (fn : List DefD) (xs : List ExD) : AlR := (valD fn, xs.map ExD.val, true)
theorem saysR_of {n : Nat} {fa : List Fa} {fn : List DefD} {xs : List ExD} {tf : List Defn} {ex : PySem.W.Frag → Bool} {h : Heap} (e : obsR n fa fn xs tf ex h.get? = valR fn xs) : SaysR fa fn xs tf ex h (KOf h.get? n) := by
  have e1 : SaysD fa fn (KOf h.get? n) := congrArg (fun z : AlR => z.1) e
  have e2 : xs.map (fun d => fnC (KOf h.get? n) d.at_) = xs.map ExD.val := congrArg (fun z : AlR => z.2.1) e
  have e3 : (ex (KOf h.get? n) && tabsB h.get? tf (KOf h.get? n)) = true := congrArg (fun z : AlR => z.2.2) e
  obtain ⟨h1, h2⟩ := ba e3
  have key : ∀ p ∈ tf, PySem.W.codeHdIn (KOf h.get? n) (cT (KOf h.get? n) p).1 (cT (KOf h.get? n) p).2 = true ∧ ∃ o, h.get? (cT (KOf h.get? n) p).2 = some o ∧ emptyTab o = true := fun p hp => by
    obtain ⟨h3, h4⟩ := ba (List.all_eq_true.mp h2 p hp)
    refine ⟨h3, ?_⟩
    cases q : h.get? (cT (KOf h.get? n) p).2 with
    | none =>
      rw [q] at h4
      cases h4
    | some o =>
      rw [q] at h4
      exact ⟨o, rfl, h4⟩
  exact ⟨e1, h1, e2, fun p hp => (key p hp).1, fun p hp => by
    obtain ⟨_, o, q, z⟩ := key p hp
    exact frT_none q z, fun p hp => by
    obtain ⟨_, o, q, z⟩ := key p hp
    rw [q, emptyTab_eq z]⟩
def hookR (n : Nat) (fa : List Fa) (fn : List DefD) (xs : List ExD) (tf : List Defn) (ex : PySem.W.Frag → Bool) : PySem.W.Hook where
  α := AlR
  obs := fun s => obsR n fa fn xs tf ex s.heap.get?
  val := fun _ => valR fn xs
  says := fun _ h => ∃ K : PySem.W.Frag, K.In h ∧ SaysR fa fn xs tf ex h K
  of := fun _ _ e => ⟨_, frT_in, saysR_of e⟩
  keeps := fun _ _ _ ⟨K, hK, c⟩ k => ⟨K, PySem.W.Frag.In.keeps hK k, ⟨c.d, c.more, c.ini, c.hd, c.out, fun p hp => k _ _ (c.empty p hp)⟩⟩
theorem obsR_eq {n : Nat} {fa : List Fa} {fn : List DefD} {xs : List ExD} {tf : List Defn} {ex : PySem.W.Frag → Bool} {g : Addr → Option Obj} {s : Shared} (h : ∀ a, g a = s.heap.get? a) : obsR n fa fn xs tf ex g = (hookR n fa fn xs tf ex).obs s := by
  have e : g = s.heap.get? := funext h
  rw [e] <;> rfl
section
variable {fa : List Fa} {fn : List DefD} {xs : List ExD} {tf : List Defn} {ex : PySem.W.Frag → Bool} {h : Heap} {K : PySem.W.Frag} {mg : Str → Option Value}
theorem SaysR.glo (c : SaysR fa fn xs tf ex h K) (X : K.In h) (G : h.Ns mainGlobals mg) {x : Str} (m : Fa.glo x ∈ fa) : mg x = some (.ref (ga K x)) := glo_ok X G (c.d.facts m)
theorem SaysR.free (c : SaysR fa fn xs tf ex h K) (X : K.In h) (G : h.Ns mainGlobals mg) {x : Str} (m : Fa.free x ∈ fa) : mg x = none := free_ok X G (c.d.facts m)
/-- a def of the text, by its place in fn -/
theorem SaysR.def_ (c : SaysR fa fn xs tf ex h K) (X : K.In h) (G : h.Ns mainGlobals mg) {x : Str} {st : Stmt} {ps : List Str} (m : dAt x st ∈ fn) (mx : Fa.glo x ∈ fa)
    (hb : ∀ (kV doc pm : Value) (an : Option Addr) (cdv ct : Value) (us : List Value), us.length = ps.length → bindArgs (PySem.W.fnOf x x (defArgs st) (defBody st) (defScope st) .none kV doc pm an cdv ct) ⟨us, []⟩ = pure (ps.zip us)) : DefT K mg x st ps := by
  obtain ⟨fd, F⟩ := c.d.defs m
  have F' : Fun K x x st (ga K x) fd := fun_of F
  exact ⟨ga K x, fd, F', c.glo X G mx, F'.binds hb⟩
theorem SaysR.txt {P : Program} (c : SaysR fa fn xs tf ex h K) (X : K.In h) (G : h.Ns mainGlobals mg) {d : ExD} (S : ExS d) (m : d ∈ xs) (mS : Fa.free "super" ∈ fa) (hP : (P.main.scope.names.lookup ("super" : Str)).isSome = false) (ok : d.ok P.main.file K = true) :
    XTxt P K mg (ga K d.x) (ma K (ga K d.x) "__init__") d.x d.fs := by
  obtain ⟨i, hi, e⟩ := List.mem_iff_getElem.mp m
  have e2 : (xs.map fun d => fnC K d.at_)[i]? = (xs.map ExD.val)[i]? := by rw [c.ini]
  rw [List.getElem?_map, List.getElem?_map, List.getElem?_eq_getElem hi, e] at e2
  exact ExD.txt S X G (c.free X G mS) hP (Option.some.inj e2) ok
/-- a def whose table is told, with its code object -/
theorem SaysR.defF (c : SaysR fa fn xs tf ex h K) (X : K.In h) (G : h.Ns mainGlobals mg) {x : Str} {st : Stmt} (m : dAt x st ∈ fn) : ∃ fd, DefF K x st (cT K (x, none)).1 (ga K x) fd ∧
    ∀ (ps : List Str), (∀ (kV doc pm : Value) (an : Option Addr) (cdv ct : Value) (us : List Value), us.length = ps.length → bindArgs (PySem.W.fnOf x x (defArgs st) (defBody st) (defScope st) .none kV doc pm an cdv ct) ⟨us, []⟩ = pure (ps.zip us)) → ∀ (s : Shared) (us : List Value), us.length = ps.length → BindsTo s fd ⟨us, []⟩ (ps.zip us) := by
  obtain ⟨fd, F⟩ := c.d.defs m
  have F' : Fun K x x st (ga K x) fd := fun_of F
  obtain ⟨oc, od, kV, doc, pm, an, cdv, ct, osl, e, lk, hcd⟩ := F'.ex
  obtain ⟨cc, rfl⟩ := codeIn_ref hcd
  have e2 : (cT K (x, none)).1 = cc := codeOf_eq (K := K) (p := (x, none)) lk (by rw [e])
  refine ⟨fd, ?_, fun ps hb s us hl => ?_⟩
  · rw [e2]
    exact ⟨oc, od, kV, doc, pm, an, ct, osl, e, lk, hcd⟩
  · rw [e]
    exact .of_eq (hb _ _ _ _ _ _ us hl)
end
end Rx
end of_RxHead

section of_K01Math
/-! The plain law of k01: what the program's cutting tells and what the law's own cutting tells are one. Texts are lists of codes. -/
namespace K01
def letS : List Nat := [97, 98, 99, 100, 101, 102, 103, 104, 105, 106, 107, 108, 109, 110, 111, 112, 113, 114, 115, 116, 117, 118, 119, 120, 121, 122, 65, 66, 67, 68, 69, 70, 71, 72, 73, 74, 75, 76, 77, 78, 79, 80, 81, 82, 83, 84, 85, 86, 87, 88, 89, 90, 95]
def figS : List Nat := [48, 49, 50, 51, 52, 53, 54, 55, 56, 57]
def sinS : List Nat := [40, 41, 123, 125, 44, 46, 61, 60, 43, 45, 42, 47]
def isL (c : Nat) : Bool := letS.contains c
def isF (c : Nat) : Bool := figS.contains c
def isS (c : Nat) : Bool := sinS.contains c
def isB (c : Nat) : Bool := c == 32 || c == 10
def dbl (a b : Nat) : Bool := b == 61 && (a == 61 || a == 33 || a == 60)
def isW (c : Nat) : Bool := isL c || isF c
/-- the length of the group at the head; 0: none -/
def gLen : List Nat → Nat
  | [] => 0
  | c :: r => if isL c then 1 + (r.takeWhile isW).length else if isF c then 1 + (r.takeWhile isF).length
    else if r.head?.any (dbl c) then 2 else if isS c then 1 else 0
theorem gLen_cons (c : Nat) (r : List Nat) : gLen (c :: r) = if isL c then 1 + (r.takeWhile isW).length else if isF c then 1 + (r.takeWhile isF).length
    else if r.head?.any (dbl c) then 2 else if isS c then 1 else 0 := rfl
/-- the program's cutting, from what is found on -/
def cutP (f : List (List Nat)) (cs : List Nat) : Except (Nat × Nat) (List (List Nat)) :=
  match cs with
  | [] => .ok f
  | c :: r => if isB c then cutP f r else
    if gLen (c :: r) = 0 then .error (f.length, 1) else if f.length = 4000 then .error (4000, 2) else cutP (f ++ [(c :: r).take (gLen (c :: r))]) (r.drop (gLen (c :: r) - 1))
termination_by cs.length
decreasing_by
  · simp
  · simp only [List.length_drop, List.length_cons]; omega
theorem cutP_nil (f : List (List Nat)) : cutP f [] = .ok f := by rw [cutP]
theorem cutP_blank (f : List (List Nat)) {c : Nat} {r : List Nat} (h : isB c = true) : cutP f (c :: r) = cutP f r := by
  rw [cutP, if_pos h]
theorem cutP_cons (f : List (List Nat)) {c : Nat} {r : List Nat} (h : isB c = false) : cutP f (c :: r) =
    if gLen (c :: r) = 0 then .error (f.length, 1) else if f.length = 4000 then .error (4000, 2) else cutP (f ++ [(c :: r).take (gLen (c :: r))]) ((c :: r).drop (gLen (c :: r))) := by
  rw [cutP, if_neg (by rw [h]; decide)]
  split
  · rfl
  · rename_i hz
    split
    · rfl
    · obtain ⟨k, hk⟩ : ∃ k, gLen (c :: r) = k + 1 := ⟨gLen (c :: r) - 1, by omega⟩
      rw [hk]
      rfl
theorem cutP_tok (f : List (List Nat)) {g t : List Nat} (hb : ∀ c r, g = c :: r → isB c = false) (hg : g ≠ []) (hl : gLen (g ++ t) = g.length) (hf : f.length < 4000) : cutP f (g ++ t) = cutP (f ++ [g]) t := by
  cases g with
  | nil => exact absurd rfl hg
  | cons c r =>
    rw [List.cons_append, cutP_cons f (hb c r rfl), ← List.cons_append, hl, if_neg (by simp), if_neg (by omega)]
    rw [List.take_left, List.drop_left]
/-! ### the law's cutting -/
def sortOf (c last : Nat) : Nat := if (if isL c then 97 else if isF c then 49 else c) = 49 ∧ last = 97 then 97 else (if isL c then 97 else if isF c then 49 else c)
def glue (f : List (List Nat)) (c : Nat) : List (List Nat) := f.dropLast ++ [f.getLast?.getD [] ++ [c]]
def lstep (f : List (List Nat)) (last prev c : Nat) : List (List Nat) × Nat :=
  if f ≠ [] ∧ sortOf c last = last ∧ (sortOf c last = 97 ∨ sortOf c last = 49) then (glue f c, sortOf c last)
  else if f ≠ [] ∧ dbl prev c = true ∧ last ≠ 50 then (glue f c, 50)
  else if isB c = true then (f, sortOf c last) else (f ++ [[c]], sortOf c last)
def lawCut : List (List Nat) → Nat → Nat → List Nat → List (List Nat)
  | f, _, _, [] => f
  | f, last, prev, c :: r => lawCut (lstep f last prev c).1 (lstep f last prev c).2 c r
theorem glue_snoc (f : List (List Nat)) (g : List Nat) (c : Nat) : glue (f ++ [g]) c = f ++ [g ++ [c]] := by
  unfold glue
  rw [List.dropLast_concat, List.getLast?_concat]
  rfl
/-- a text of pieces: each sign one of the groups', a '!' ahead of a '=' alone -/
def good : List Nat → Prop
  | [] => True
  | c :: r => (isL c = true ∨ isF c = true ∨ isS c = true ∨ isB c = true ∨ (c = 33 ∧ r.head? = some 61)) ∧ good r
theorem good_append : ∀ {a b : List Nat}, good a → good b → good (a ++ b)
  | [], _, _, h => h
  | c :: r, b, ⟨h1, h2⟩, h => by
    refine ⟨?_, good_append h2 h⟩
    rcases h1 with z | z | z | z | ⟨z1, z2⟩
    · exact .inl z
    · exact .inr (.inl z)
    · exact .inr (.inr (.inl z))
    · exact .inr (.inr (.inr (.inl z)))
    · refine .inr (.inr (.inr (.inr ⟨z1, ?_⟩)))
      cases r with
      | nil => cases z2
      | cons d r => exact z2
theorem good_drop : ∀ {n : Nat} {a : List Nat}, good a → good (a.drop n)
  | 0, _, h => h
  | _ + 1, [], h => h
  | n + 1, _ :: _, h => good_drop (n := n) h.2
/-! ### classes of signs -/
theorem mem_cases {l : List Nat} {P : Nat → Prop} (h : ∀ x ∈ l, P x) {c : Nat} (hc : l.contains c = true) : P c := h c (by simpa using hc)
theorem L_not {c : Nat} (h : isL c = true) : isF c = false ∧ isB c = false ∧ c ≠ 61 ∧ c ≠ 33 ∧ c ≠ 60 := mem_cases (l := letS) (P := fun c => isF c = false ∧ isB c = false ∧ c ≠ 61 ∧ c ≠ 33 ∧ c ≠ 60) (by decide +kernel) h
theorem F_not {c : Nat} (h : isF c = true) : isL c = false ∧ isB c = false ∧ c ≠ 61 ∧ c ≠ 33 ∧ c ≠ 60 := mem_cases (l := figS) (P := fun c => isL c = false ∧ isB c = false ∧ c ≠ 61 ∧ c ≠ 33 ∧ c ≠ 60) (by decide +kernel) h
theorem S_not {c : Nat} (h : isS c = true) : isL c = false ∧ isF c = false ∧ isB c = false ∧ c ≠ 33 ∧ c ≠ 97 ∧ c ≠ 49 ∧ c ≠ 50 := mem_cases (l := sinS) (P := fun c => isL c = false ∧ isF c = false ∧ isB c = false ∧ c ≠ 33 ∧ c ≠ 97 ∧ c ≠ 49 ∧ c ≠ 50) (by decide +kernel) h
theorem B_cases {c : Nat} (h : isB c = true) : c = 32 ∨ c = 10 := by
  unfold isB at h
  simpa using h
theorem B_not {c : Nat} (h : isB c = true) : isL c = false ∧ isF c = false ∧ c ≠ 61 ∧ c ≠ 33 ∧ c ≠ 60 ∧ c ≠ 97 ∧ c ≠ 49 ∧ c ≠ 50 := by
  rcases B_cases h with rfl | rfl <;> decide +kernel
theorem dbl_not {a b : Nat} (h1 : a ≠ 61) (h2 : a ≠ 33) (h3 : a ≠ 60) : dbl a b = false := by
  unfold dbl
  simp [h1, h2, h3]
/-- at a group's beginning: what stood ahead does not go on with the next sign -/
def Edge (last prev : Nat) (cs : List Nat) : Prop := ∀ d r, cs = d :: r → ¬ (last = 97 ∧ isW d = true) ∧ ¬ (last = 49 ∧ isF d = true) ∧ ¬ (dbl prev d = true ∧ last ≠ 50)
theorem Edge.nil (last prev : Nat) : Edge last prev [] := fun _ _ h => nomatch h
/-- a blank ahead, or nothing -/
def Cut (t : List Nat) : Prop := ∀ d r, t = d :: r → isB d = true
theorem Cut.nil : Cut [] := fun _ _ h => nomatch h
theorem Cut.cons {c : Nat} {r : List Nat} (h : isB c = true) : Cut (c :: r) := fun d r' e => by
  cases e
  exact h
/-! ### words, figures -/
theorem law_word : ∀ (w : List Nat) (f : List (List Nat)) (g : List Nat) (p : Nat) (cs : List Nat), (∀ c ∈ w, isW c = true) →
    ∃ p', (w = [] → p' = p) ∧ (w ≠ [] → isW p' = true) ∧ lawCut (f ++ [g]) 97 p (w ++ cs) = lawCut (f ++ [g ++ w]) 97 p' cs
  | [], f, g, p, cs, _ => ⟨p, fun _ => rfl, fun h => absurd rfl h, by simp⟩
  | c :: w, f, g, p, cs, h => by
    have hc := h c (List.mem_cons_self ..)
    have hs : sortOf c 97 = 97 := by
      unfold sortOf
      unfold isW at hc
      rcases Bool.or_eq_true_iff.mp hc with z | z
      · simp [z]
      · simp [z, (F_not z).1]
    obtain ⟨p', e1, e2, e3⟩ := law_word w f (g ++ [c]) c cs fun d hd => h d (List.mem_cons_of_mem _ hd)
    refine ⟨p', (fun z => nomatch z), fun _ => ?_, ?_⟩
    · cases w with
      | nil => rw [e1 rfl]; exact hc
      | cons d w => exact e2 (by simp)
    · show lawCut (lstep (f ++ [g]) 97 p c).1 (lstep (f ++ [g]) 97 p c).2 c (w ++ cs) = _
      have es : lstep (f ++ [g]) 97 p c = (f ++ [g ++ [c]], 97) := by
        unfold lstep
        rw [hs, if_pos ⟨by simp, rfl, .inl rfl⟩, glue_snoc]
      rw [es, e3]
      simp
theorem law_figs : ∀ (w : List Nat) (f : List (List Nat)) (g : List Nat) (p : Nat) (cs : List Nat), (∀ c ∈ w, isF c = true) →
    ∃ p', (w = [] → p' = p) ∧ (w ≠ [] → isF p' = true) ∧ lawCut (f ++ [g]) 49 p (w ++ cs) = lawCut (f ++ [g ++ w]) 49 p' cs
  | [], f, g, p, cs, _ => ⟨p, fun _ => rfl, fun h => absurd rfl h, by simp⟩
  | c :: w, f, g, p, cs, h => by
    have hc := h c (List.mem_cons_self ..)
    have hs : sortOf c 49 = 49 := by
      unfold sortOf
      simp [hc, (F_not hc).1]
    obtain ⟨p', e1, e2, e3⟩ := law_figs w f (g ++ [c]) c cs fun d hd => h d (List.mem_cons_of_mem _ hd)
    refine ⟨p', (fun z => nomatch z), fun _ => ?_, ?_⟩
    · cases w with
      | nil => rw [e1 rfl]; exact hc
      | cons d w => exact e2 (by simp)
    · show lawCut (lstep (f ++ [g]) 49 p c).1 (lstep (f ++ [g]) 49 p c).2 c (w ++ cs) = _
      have es : lstep (f ++ [g]) 49 p c = (f ++ [g ++ [c]], 49) := by
        unfold lstep
        rw [hs, if_pos ⟨by simp, rfl, .inr rfl⟩, glue_snoc]
      rw [es, e3]
      simp
/-- a group that stands alone ahead of a blank -/
structure Tok (g : List Nat) : Prop where
  ne : g ≠ []
  nb : ∀ c r, g = c :: r → isB c = false
  len : ∀ t, Cut t → gLen (g ++ t) = g.length
theorem Tok.cut {g : List Nat} (k : Tok g) (f : List (List Nat)) {t : List Nat} (ht : Cut t) (hf : f.length < 4000) : cutP f (g ++ t) = cutP (f ++ [g]) t := cutP_tok f k.nb k.ne (k.len t ht) hf
theorem takeW_cut {p : Nat → Bool} (hp : ∀ c, isB c = true → p c = false) : ∀ (w t : List Nat), (∀ c ∈ w, p c = true) → Cut t → (w ++ t).takeWhile p = w
  | [], [], _, _ => rfl
  | [], c :: r, _, h => by
    rw [List.nil_append, List.takeWhile_cons, hp c (h c r rfl)]
    rfl
  | c :: w, t, hw, h => by
    rw [List.cons_append, List.takeWhile_cons, hw c (List.mem_cons_self ..), if_pos rfl, takeW_cut hp w t (fun d hd => hw d (List.mem_cons_of_mem _ hd)) h]
theorem W_blank (c : Nat) (h : isB c = true) : isW c = false := by
  unfold isW
  rw [(B_not h).1, (B_not h).2.1]
  rfl
theorem tok_word {c : Nat} {w : List Nat} (hc : isL c = true) (hw : ∀ d ∈ w, isW d = true) : Tok (c :: w) :=
  ⟨by simp, fun d r e => by cases e; exact (L_not hc).2.1, fun t ht => by
    show gLen (c :: (w ++ t)) = _
    rw [gLen_cons, if_pos hc, takeW_cut W_blank w t hw ht, List.length_cons]
    omega⟩
theorem tok_figs {c : Nat} {w : List Nat} (hc : isF c = true) (hw : ∀ d ∈ w, isF d = true) : Tok (c :: w) :=
  ⟨by simp, fun d r e => by cases e; exact (F_not hc).2.1, fun t ht => by
    show gLen (c :: (w ++ t)) = _
    rw [gLen_cons, if_neg (by rw [(F_not hc).1]; decide), if_pos hc, takeW_cut (fun d h => (B_not h).2.1) w t hw ht, List.length_cons]
    omega⟩
theorem gLen_dbl {c d : Nat} (h : dbl c d = true) (t : List Nat) : gLen (c :: d :: t) = 2 := by
  have hc : c = 61 ∨ c = 33 ∨ c = 60 := by
    unfold dbl at h
    simp at h
    omega
  rw [gLen_cons, if_neg (by rcases hc with rfl | rfl | rfl <;> decide +kernel), if_neg (by rcases hc with rfl | rfl | rfl <;> decide +kernel), if_pos (by simpa using h)]
theorem tok_dbl {c d : Nat} (h : dbl c d = true) : Tok [c, d] :=
  ⟨by simp, fun e r q => by
    cases q
    unfold dbl at h
    simp at h
    unfold isB
    simp
    omega, fun t _ => gLen_dbl h t⟩
theorem gLen_sing {c : Nat} (h : isS c = true) {t : List Nat} (ht : ∀ d r, t = d :: r → dbl c d = false) : gLen (c :: t) = 1 := by
  obtain ⟨h1, h2, _⟩ := S_not h
  rw [gLen_cons, if_neg (by rw [h1]; decide), if_neg (by rw [h2]; decide), if_neg, if_pos h]
  cases t with
  | nil => simp
  | cons d r => simp [ht d r rfl]
theorem tok_sing {c : Nat} (h : isS c = true) : Tok [c] :=
  ⟨by simp, fun e r q => by cases q; exact (S_not h).2.2.1, fun t ht => gLen_sing h fun d r e => by
    have z := (B_not (ht d r e)).2.2.1
    unfold dbl
    simp [z]⟩
theorem span_word (p : Nat → Bool) : ∀ r : List Nat, ∃ w cs, r = w ++ cs ∧ (∀ c ∈ w, p c = true) ∧ ∀ d q, cs = d :: q → p d = false
  | [] => ⟨[], [], rfl, by simp, fun _ _ h => nomatch h⟩
  | c :: r => by
    by_cases h : p c = true
    · obtain ⟨w, cs, e, h1, h2⟩ := span_word p r
      refine ⟨c :: w, cs, by rw [e]; rfl, fun d hd => ?_, h2⟩
      rcases List.mem_cons.mp hd with rfl | hd
      · exact h
      · exact h1 d hd
    · exact ⟨[], c :: r, rfl, by simp, fun d q e => by cases e; simpa using h⟩
theorem takeW_stop {p : Nat → Bool} : ∀ (w t : List Nat), (∀ c ∈ w, p c = true) → (∀ d q, t = d :: q → p d = false) → (w ++ t).takeWhile p = w
  | [], [], _, _ => rfl
  | [], c :: r, _, h => by
    rw [List.nil_append, List.takeWhile_cons, h c r rfl]
    rfl
  | c :: w, t, hw, h => by
    rw [List.cons_append, List.takeWhile_cons, hw c (List.mem_cons_self ..), if_pos rfl, takeW_stop w t (fun d hd => hw d (List.mem_cons_of_mem _ hd)) h]
/-- both cuttings of a good text -/
structure Both (cs : List Nat) (gs : List (List Nat)) : Prop where
  law : ∀ f last prev, Edge last prev cs → lawCut f last prev cs = f ++ gs
  prg : ∀ f t, Cut t → f.length + gs.length ≤ 4000 → cutP f (cs ++ t) = cutP (f ++ gs) t
  len : gs.length ≤ cs.length
  tok : ∀ g ∈ gs, Tok g
theorem edge_blank {c : Nat} (h : isB c = true) (r : List Nat) : Edge c c r := fun d q _ => by
  obtain ⟨_, _, h1, h2, h3, h4, h5, _⟩ := B_not h
  exact ⟨fun z => h4 z.1, fun z => h5 z.1, fun z => by
    rw [dbl_not h1 h2 h3] at z
    exact absurd z.1 (by decide)⟩
theorem edge_step {f : List (List Nat)} {last prev d : Nat} {r : List Nat} (h : Edge last prev (d :: r)) (hw : isW d = true ∨ sortOf d last ≠ last ∨ (sortOf d last ≠ 97 ∧ sortOf d last ≠ 49)) :
    lstep f last prev d = if isB d = true then (f, sortOf d last) else (f ++ [[d]], sortOf d last) := by
  obtain ⟨h1, h2, h3⟩ := h d r rfl
  have hz : ¬ (sortOf d last = last ∧ (sortOf d last = 97 ∨ sortOf d last = 49)) := by
    rintro ⟨z1, z2⟩
    rcases hw with hw | hw | hw
    · rcases z2 with z2 | z2
      · exact h1 ⟨by rw [← z1, z2], hw⟩
      · refine h2 ⟨by rw [← z1, z2], ?_⟩
        unfold sortOf at z2
        unfold isW at hw
        rcases Bool.or_eq_true_iff.mp hw with q | q
        · simp [q] at z2
        · exact q
    · exact hw z1
    · omega
  unfold lstep
  rw [if_neg (fun z => hz z.2), if_neg (fun z => h3 z.2)]
theorem both_of : ∀ (n : Nat) (cs : List Nat), cs.length ≤ n → good cs → ∃ gs, Both cs gs
  | _, [], _, _ => ⟨[], ⟨fun f last prev _ => by simp [lawCut], fun f t _ _ => by simp, Nat.le_refl _, by simp⟩⟩
  | 0, _ :: _, h, _ => by simp at h
  | n + 1, c :: r, hn, hg => by
    have hn : r.length ≤ n := by simpa using hn
    by_cases hb : isB c = true
    · obtain ⟨gs, B⟩ := both_of n r hn hg.2
      refine ⟨gs, ⟨fun f last prev he => ?_, fun f t ht hl => ?_, Nat.le_succ_of_le B.len, B.tok⟩⟩
      · have hs : sortOf c last = c := by
          unfold sortOf
          obtain ⟨b1, b2, _, _, _, _, b7, _⟩ := B_not hb
          simp [b1, b2, b7]
        obtain ⟨_, _, _, _, _, b6, b7, _⟩ := B_not hb
        show lawCut (lstep f last prev c).1 (lstep f last prev c).2 c r = _
        rw [edge_step he (.inr (.inr (by rw [hs]; exact ⟨b6, b7⟩))), if_pos hb, hs]
        exact B.law f c c (edge_blank hb r)
      · rw [List.cons_append, cutP_blank f hb]
        exact B.prg f t ht hl
    have hb : isB c = false := by simpa using hb
    by_cases hL : isL c = true
    · obtain ⟨w, cs, e, h1, h2⟩ := span_word isW r
      have hcs : cs.length ≤ n := by
        rw [e, List.length_append] at hn
        omega
      have gcs : good cs := by
        have z : cs = r.drop w.length := by rw [e, List.drop_left]
        rw [z]
        exact good_drop hg.2
      obtain ⟨gs, B⟩ := both_of n cs hcs gcs
      subst e
      refine ⟨(c :: w) :: gs, ⟨fun f last prev he => ?_, fun f t ht hl => ?_, ?_, fun g hg' => ?_⟩⟩
      · have hs : sortOf c last = 97 := by
          unfold sortOf
          simp [hL]
        have hW : isW c = true := by
          unfold isW
          rw [hL]
          rfl
        show lawCut (lstep f last prev c).1 (lstep f last prev c).2 c (w ++ cs) = _
        rw [edge_step he (.inl hW), if_neg (by rw [hb]; decide), hs]
        obtain ⟨p', e1, e2, e3⟩ := law_word w f [c] c cs h1
        have hp : isW p' = true := by
          cases w with
          | nil => rw [e1 rfl]; exact hW
          | cons d w => exact e2 (by simp)
        have np : p' ≠ 61 ∧ p' ≠ 33 ∧ p' ≠ 60 := by
          unfold isW at hp
          rcases Bool.or_eq_true_iff.mp hp with z | z
          · exact (L_not z).2.2
          · exact (F_not z).2.2
        rw [e3, B.law _ 97 p' fun d q ed => ⟨fun z => by rw [h2 d q ed] at z; exact absurd z.2 (by decide), fun z => absurd z.1 (by decide), fun z => by rw [dbl_not np.1 np.2.1 np.2.2] at z; exact absurd z.1 (by decide)⟩]
        simp
      · have hl1 : f.length < 4000 := by simp only [List.length_cons] at hl; omega
        have gl : gLen (c :: (w ++ (cs ++ t))) = (c :: w).length := by
          rw [gLen_cons, if_pos hL, takeW_stop w (cs ++ t) h1 fun d q ed => ?_, List.length_cons, Nat.add_comm]
          cases cs with
          | nil => exact W_blank d (ht d q ed)
          | cons d' q' =>
            cases ed
            exact h2 _ _ rfl
        have z : c :: (w ++ cs) ++ t = (c :: w) ++ (cs ++ t) := by simp
        rw [z, cutP_tok f (g := c :: w) (fun d q ed => by cases ed; exact hb) (by simp) gl hl1, B.prg _ t ht (by simp only [List.length_cons, List.length_append, List.length_nil] at hl ⊢; omega)]
        simp
      · have := B.len
        simp only [List.length_cons, List.length_append]
        omega
      · rcases List.mem_cons.mp hg' with rfl | hg'
        · exact tok_word hL h1
        · exact B.tok g hg'
    have hL : isL c = false := by simpa using hL
    by_cases hF : isF c = true
    · obtain ⟨w, cs, e, h1, h2⟩ := span_word isF r
      have hcs : cs.length ≤ n := by
        rw [e, List.length_append] at hn
        omega
      have gcs : good cs := by
        have z : cs = r.drop w.length := by rw [e, List.drop_left]
        rw [z]
        exact good_drop hg.2
      obtain ⟨gs, B⟩ := both_of n cs hcs gcs
      subst e
      refine ⟨(c :: w) :: gs, ⟨fun f last prev he => ?_, fun f t ht hl => ?_, ?_, fun g hg' => ?_⟩⟩
      · have hW : isW c = true := by
          unfold isW
          rw [hF, Bool.or_true]
        have hs : sortOf c last = 49 := by
          unfold sortOf
          have z : last ≠ 97 := fun z => (he c _ rfl).1 ⟨z, hW⟩
          simp [hL, hF, z]
        show lawCut (lstep f last prev c).1 (lstep f last prev c).2 c (w ++ cs) = _
        rw [edge_step he (.inl hW), if_neg (by rw [hb]; decide), hs]
        obtain ⟨p', e1, e2, e3⟩ := law_figs w f [c] c cs h1
        have hp : isF p' = true := by
          cases w with
          | nil => rw [e1 rfl]; exact hF
          | cons d w => exact e2 (by simp)
        have np := (F_not hp).2.2
        rw [e3, B.law _ 49 p' fun d q ed => ⟨fun z => absurd z.1 (by decide), fun z => by rw [h2 d q ed] at z; exact absurd z.2 (by decide), fun z => by rw [dbl_not np.1 np.2.1 np.2.2] at z; exact absurd z.1 (by decide)⟩]
        simp
      · have hl1 : f.length < 4000 := by simp only [List.length_cons] at hl; omega
        have gl : gLen (c :: (w ++ (cs ++ t))) = (c :: w).length := by
          rw [gLen_cons, if_neg (by rw [hL]; decide), if_pos hF, takeW_stop w (cs ++ t) h1 fun d q ed => ?_, List.length_cons, Nat.add_comm]
          cases cs with
          | nil => exact (B_not (ht d q ed)).2.1
          | cons d' q' =>
            cases ed
            exact h2 _ _ rfl
        have z : c :: (w ++ cs) ++ t = (c :: w) ++ (cs ++ t) := by simp
        rw [z, cutP_tok f (g := c :: w) (fun d q ed => by cases ed; exact hb) (by simp) gl hl1, B.prg _ t ht (by simp only [List.length_cons, List.length_append, List.length_nil] at hl ⊢; omega)]
        simp
      · have := B.len
        simp only [List.length_cons, List.length_append]
        omega
      · rcases List.mem_cons.mp hg' with rfl | hg'
        · exact tok_figs hF h1
        · exact B.tok g hg'
    have hF : isF c = false := by simpa using hF
    have hW : isW c = false := by
      unfold isW
      rw [hL, hF]
      rfl
    have hs : ∀ last, c ≠ 49 → sortOf c last = c := fun last z => by
      unfold sortOf
      simp [hL, hF, z]
    have hne : c ≠ 49 ∧ c ≠ 97 ∧ c ≠ 50 := by
      refine ⟨?_, ?_, ?_⟩ <;> (intro z; subst z; first | exact absurd hF (by decide +kernel) | exact absurd hL (by decide +kernel))
    by_cases hD : ∃ d q, r = d :: q ∧ dbl c d = true
    · obtain ⟨d, q, rfl, hd⟩ := hD
      obtain ⟨gs, B⟩ := both_of n q (by simp only [List.length_cons] at hn; omega) hg.2.2
      have ed : d = 61 := by
        unfold dbl at hd
        simp at hd
        exact hd.1
      refine ⟨[c, d] :: gs, ⟨fun f last prev he => ?_, fun f t ht hl => ?_, ?_, fun g hg' => ?_⟩⟩
      · show lawCut (lstep f last prev c).1 (lstep f last prev c).2 c (d :: q) = _
        rw [edge_step he (.inr (.inr (by rw [hs last hne.1]; exact ⟨hne.2.1, hne.1⟩))), if_neg (by rw [hb]; decide), hs last hne.1]
        show lawCut (lstep (f ++ [[c]]) c c d).1 (lstep (f ++ [[c]]) c c d).2 d q = _
        have es : lstep (f ++ [[c]]) c c d = (f ++ [[c, d]], 50) := by
          have s1 : sortOf d c = 61 := by
            rw [ed]
            unfold sortOf
            rw [show isL 61 = false from by decide +kernel, show isF 61 = false from by decide +kernel]
            simp
          unfold lstep
          rw [s1, if_neg (fun z => by have := z.2.2; omega), if_pos ⟨by simp, hd, hne.2.2⟩, glue_snoc]
          rfl
        rw [es]
        show lawCut (f ++ [[c, d]]) 50 d q = _
        rw [B.law _ 50 d fun x y _ => ⟨fun z => absurd z.1 (by decide), fun z => absurd z.1 (by decide), fun z => z.2 rfl⟩]
        simp
      · have hl1 : f.length < 4000 := by simp only [List.length_cons] at hl; omega
        have z : c :: d :: q ++ t = [c, d] ++ (q ++ t) := by simp
        rw [z, cutP_tok f (g := [c, d]) (fun x y ex => by cases ex; exact hb) (by simp) (gLen_dbl hd _) hl1, B.prg _ t ht (by simp only [List.length_cons, List.length_append, List.length_nil] at hl ⊢; omega)]
        simp
      · have := B.len
        simp only [List.length_cons]
        omega
      · rcases List.mem_cons.mp hg' with rfl | hg'
        · exact tok_dbl hd
        · exact B.tok g hg'
    · have hD' : ∀ d q, r = d :: q → dbl c d = false := fun d q e => by
        cases z : dbl c d with
        | false => rfl
        | true => exact absurd ⟨d, q, e, z⟩ hD
      have hS : isS c = true := by
        rcases hg.1 with z | z | z | z | ⟨z1, z2⟩
        · rw [hL] at z; cases z
        · rw [hF] at z; cases z
        · exact z
        · rw [hb] at z; cases z
        · cases r with
          | nil => cases z2
          | cons d q =>
            have z3 : d = 61 := Option.some.inj z2
            have z4 := hD' d q rfl
            rw [z1, z3] at z4
            exact absurd z4 (by decide)
      obtain ⟨gs, B⟩ := both_of n r hn hg.2
      refine ⟨[c] :: gs, ⟨fun f last prev he => ?_, fun f t ht hl => ?_, ?_, fun g hg' => ?_⟩⟩
      · show lawCut (lstep f last prev c).1 (lstep f last prev c).2 c r = _
        rw [edge_step he (.inr (.inr (by rw [hs last hne.1]; exact ⟨hne.2.1, hne.1⟩))), if_neg (by rw [hb]; decide), hs last hne.1]
        rw [B.law _ c c fun x y ex => ⟨fun z => hne.2.1 z.1, fun z => hne.1 z.1, fun z => by rw [hD' x y ex] at z; exact absurd z.1 (by decide)⟩]
        simp
      · have hl1 : f.length < 4000 := by simp only [List.length_cons] at hl; omega
        have gl : gLen ([c] ++ (r ++ t)) = ([c] : List Nat).length := gLen_sing hS fun d q e => by
          cases r with
          | nil =>
            have z := (B_not (ht d q e)).2.2.1
            unfold dbl
            simp [z]
          | cons d' q' =>
            cases e
            exact hD' _ _ rfl
        have z : c :: r ++ t = [c] ++ (r ++ t) := by simp
        rw [z, cutP_tok f (g := [c]) (fun x y ex => by cases ex; exact hb) (by simp) gl hl1, B.prg _ t ht (by simp only [List.length_cons, List.length_append, List.length_nil] at hl ⊢; omega)]
        simp
      · have := B.len
        simp only [List.length_cons]
        omega
      · rcases List.mem_cons.mp hg' with rfl | hg'
        · exact tok_sing hS
        · exact B.tok g hg'
/-! ### what the law asks -/
def joinB : List (List Nat) → List Nat
  | [] => []
  | [p] => p
  | p :: q :: r => p ++ (32 :: joinB (q :: r))
theorem cut_join : ∀ (gs : List (List Nat)) (f : List (List Nat)), (∀ g ∈ gs, Tok g) → f.length + gs.length ≤ 4000 → cutP f (joinB gs) = .ok (f ++ gs)
  | [], f, _, _ => by simp [joinB, cutP_nil]
  | [p], f, h, hl => by
    have z := (h p (List.mem_cons_self ..)).cut f Cut.nil (by simp only [List.length_cons, List.length_nil] at hl; omega)
    rw [List.append_nil] at z
    show cutP f p = _
    rw [z, cutP_nil]
  | p :: q :: r, f, h, hl => by
    have z := (h p (List.mem_cons_self ..)).cut f (t := 32 :: joinB (q :: r)) (Cut.cons (by decide)) (by simp only [List.length_cons] at hl; omega)
    show cutP f (p ++ (32 :: joinB (q :: r))) = _
    rw [z, cutP_blank _ (by decide), cut_join (q :: r) (f ++ [p]) (fun g hg => h g (List.mem_cons_of_mem _ hg)) (by simp only [List.length_cons, List.length_append, List.length_nil] at hl ⊢; omega)]
    simp
theorem asked {cs : List Nat} (hg : good cs) (hl : cs.length ≤ 1000) : ∃ gs : List (List Nat), lawCut [] 32 32 cs = gs ∧ gs.length ≤ cs.length ∧ cutP [] cs = .ok gs ∧ cutP [] (joinB gs) = .ok gs ∧ cutP [] (cs ++ 10 :: cs) = .ok (gs ++ gs) ∧
    ∀ w : List Nat, gLen w = 0 → (∃ c r, w = c :: r ∧ isB c = false) → cutP [] (cs ++ 32 :: w) = .error (gs.length, 1) := by
  obtain ⟨gs, B⟩ := both_of cs.length cs (Nat.le_refl _) hg
  have hz := B.len
  refine ⟨gs, ?_, B.len, ?_, ?_, ?_, fun w hw ⟨c, r, e, hb⟩ => ?_⟩
  · have z := B.law [] 32 32 fun d r _ => ⟨fun z => absurd z.1 (by decide), fun z => absurd z.1 (by decide), fun z => by rw [dbl_not (by decide) (by decide) (by decide)] at z; exact absurd z.1 (by decide)⟩
    rw [z, List.nil_append]
  · have z := B.prg [] [] Cut.nil (by simp only [List.length_nil]; omega)
    rw [List.append_nil, List.nil_append, cutP_nil] at z
    exact z
  · have z := cut_join gs [] B.tok (by simp only [List.length_nil]; omega)
    rw [List.nil_append] at z
    exact z
  · rw [B.prg [] (10 :: cs) (Cut.cons (by decide)) (by simp only [List.length_nil]; omega), cutP_blank _ (by decide), List.nil_append]
    have z := B.prg gs [] Cut.nil (by omega)
    rw [List.append_nil, cutP_nil] at z
    exact z
  · rw [B.prg [] (32 :: w) (Cut.cons (by decide)) (by simp only [List.length_nil]; omega), cutP_blank _ (by decide), List.nil_append, e, cutP_cons gs hb, ← e, if_pos hw]
/-- the law begins with no sign ahead: prev is the last sign of the text itself, and nothing is found -/
theorem lawCut_prev (last p q : Nat) : ∀ cs : List Nat, lawCut [] last p cs = lawCut [] last q cs
  | [] => rfl
  | c :: r => by
    have e : lstep [] last p c = lstep [] last q c := by
      unfold lstep
      simp
    show lawCut (lstep [] last p c).1 (lstep [] last p c).2 c r = lawCut (lstep [] last q c).1 (lstep [] last q c).2 c r
    rw [e]
/-! ### the long texts -/
theorem rep_a : ∀ (n : Nat) (f : List (List Nat)), f.length + n ≤ 4000 → cutP f ((List.replicate n [97, 32]).flatten) = .ok (f ++ List.replicate n [97])
  | 0, f, _ => by simp [cutP_nil]
  | n + 1, f, h => by
    have z := (tok_word (c := 97) (w := []) (by decide +kernel) (by simp)).cut f (t := 32 :: (List.replicate n [97, 32]).flatten) (Cut.cons (by decide)) (by omega)
    show cutP f ([97] ++ (32 :: (List.replicate n [97, 32]).flatten)) = _
    rw [z, cutP_blank _ (by decide), rep_a n (f ++ [[97]]) (by simp only [List.length_append, List.length_cons, List.length_nil]; omega)]
    simp [List.replicate_succ]
theorem rep_a_more : ∀ (n : Nat) (f : List (List Nat)), f.length ≤ 4000 → 4000 < f.length + n → cutP f ((List.replicate n [97, 32]).flatten) = .error (4000, 2)
  | 0, f, h1, h2 => by omega
  | n + 1, f, h1, h2 => by
    by_cases hf : f.length = 4000
    · show cutP f (97 :: (32 :: (List.replicate n [97, 32]).flatten)) = _
      rw [cutP_cons f (by decide), if_neg (by rw [gLen_cons, if_pos (by decide +kernel)]; omega), if_pos hf]
    · have z := (tok_word (c := 97) (w := []) (by decide +kernel) (by simp)).cut f (t := 32 :: (List.replicate n [97, 32]).flatten) (Cut.cons (by decide)) (by omega)
      show cutP f ([97] ++ (32 :: (List.replicate n [97, 32]).flatten)) = _
      rw [z, cutP_blank _ (by decide), rep_a_more n (f ++ [[97]]) (by simp only [List.length_append, List.length_cons, List.length_nil]; omega) (by simp only [List.length_append, List.length_cons, List.length_nil]; omega)]
theorem rep_s {c : Nat} (hc : isS c = true) (hd : ∀ d, dbl c d = false) (t : List Nat) : ∀ (n : Nat) (f : List (List Nat)), f.length + n ≤ 4000 → cutP f (List.replicate n c ++ t) = cutP (f ++ List.replicate n [c]) t
  | 0, f, _ => by simp
  | n + 1, f, h => by
    have gl : gLen ([c] ++ (List.replicate n c ++ t)) = ([c] : List Nat).length := gLen_sing hc fun d _ _ => hd d
    have z := cutP_tok f (g := [c]) (fun x y ex => by cases ex; exact (S_not hc).2.2.1) (by simp) gl (by omega)
    show cutP f ([c] ++ (List.replicate n c ++ t)) = _
    rw [z, rep_s hc hd t n (f ++ [[c]]) (by simp only [List.length_append, List.length_cons, List.length_nil]; omega)]
    simp [List.replicate_succ]
theorem rep_s_more {c : Nat} (hc : isS c = true) (hd : ∀ d, dbl c d = false) (t : List Nat) : ∀ (n : Nat) (f : List (List Nat)), f.length ≤ 4000 → 4000 < f.length + n → cutP f (List.replicate n c ++ t) = .error (4000, 2)
  | 0, f, h1, h2 => by omega
  | n + 1, f, h1, h2 => by
    have gl : gLen ([c] ++ (List.replicate n c ++ t)) = ([c] : List Nat).length := gLen_sing hc fun d _ _ => hd d
    by_cases hf : f.length = 4000
    · show cutP f (c :: (List.replicate n c ++ t)) = _
      have gl' : gLen (c :: (List.replicate n c ++ t)) = 1 := gl
      rw [cutP_cons f (S_not hc).2.2.1, gl', if_neg (by decide), if_pos hf]
    · have z := cutP_tok f (g := [c]) (fun x y ex => by cases ex; exact (S_not hc).2.2.1) (by simp) gl (by omega)
      show cutP f ([c] ++ (List.replicate n c ++ t)) = _
      rw [z, rep_s_more hc hd t n (f ++ [[c]]) (by simp only [List.length_append, List.length_cons, List.length_nil]; omega) (by simp only [List.length_append, List.length_cons, List.length_nil]; omega)]
end K01
end of_K01Math

section of_K01A
set_option maxRecDepth 100000
set_option maxHeartbeats 4000000
/-! k01: the program's defs: end_of, group_end, groups. -/
namespace K01
open PySem L2
def top (i : Nat) : Stmt := PySem.Challenge.pw_runscarried_k01_whole_texts_cut_into_gro.main.body.getD i (.Pass ⟨0, 0, 0, 0⟩)
abbrev sEnd : Stmt := top 10
abbrev sGrp : Stmt := top 11
abbrev sGroups : Stmt := top 12
/-- a text's codes -/
abbrev tl (z : Str) : List Nat := z.cps.toList
theorem tl_len (z : Str) : (tl z).length = z.length := rfl
abbrev LET : Str := "abcdefghijklmnopqrstuvwxyzABCDEFGHIJKLMNOPQRSTUVWXYZ_"
abbrev FIG : Str := "0123456789"
abbrev SIN : Str := "(){},.=<+-*/"
theorem let_tl : tl LET = letS := by decide +kernel
theorem fig_tl : tl FIG = figS := by decide +kernel
theorem sin_tl : tl SIN = sinS := by decide +kernel
theorem mem_L (c : Nat) : decide (c ∈ tl LET) = isL c := by
  rw [let_tl]
  unfold isL
  rw [List.contains_eq_mem]
theorem mem_F (c : Nat) : decide (c ∈ tl FIG) = isF c := by
  rw [fig_tl]
  unfold isF
  rw [List.contains_eq_mem]
theorem mem_S (c : Nat) : decide (c ∈ tl SIN) = isS c := by
  rw [sin_tl]
  unfold isS
  rw [List.contains_eq_mem]
theorem mem_W (c : Nat) : decide (c ∈ tl (LET ++ FIG)) = isW c := by
  have e : tl (LET ++ FIG) = letS ++ figS := by decide +kernel
  rw [e]
  unfold isW isL isF
  rw [List.contains_eq_mem, List.contains_eq_mem]
  by_cases h1 : c ∈ letS <;> by_cases h2 : c ∈ figS <;> simp [h1, h2]
section
variable {P : Program} {w : World} {K : PySem.W.Frag} {mg : Str → Option Value} {base : Heap}
/-! ### end_of -/
def spEnd : Sp := fun vs H Q _ => ∃ (z g : Str) (i : Nat), vs = [.str z, .int (i : Int), .str g] ∧ i ≤ z.length ∧ z.length ≤ 100000 ∧
  Q (.int (i + ((tl z).drop i |>.takeWhile fun c => decide (c ∈ tl g)).length : Nat)) H
theorem scE : FnScope ["text", "at", "signs", "end"] ["text", "at", "signs"] (defScope sEnd) := ⟨rfl, rfl, rfl, by decide +kernel, rfl, by decide +kernel, by decide +kernel⟩
theorem z100 {z : Str} (h : z.length ≤ 100000) : z.length ≤ sizeLine := by
  rw [sizeLine_eq]
  omega
theorem ok_end {f : Addr} {fd : FuncData} (F : Fun K "end_of" "end_of" sEnd f fd) (ml : mg "len" = none) : FnOk P w K mg base CX0 1 f fd ["text", "at", "signs"] spEnd := by
  refine F.ok scE (fun vs H Q E h => ?_) (fun cdv A outer s H vs Q E hr h => ?_)
  · obtain ⟨z, g, i, rfl, _⟩ := h
    rfl
  · obtain ⟨z, g, i, rfl, hi, hz, k⟩ := h
    refine ⟨_, pss_cons (ps_set (i := 3) scE.nd rfl (.inl rfl) (pv 1))
      (pss_cons (ps_while PassesOwn.never (PW.pt (pw_and (pt_cmpR op_lt (pv 3) (pe_callB call_len_str (by rfl) ml PySem.boot_len (pa_cons (pv 0) pa_nil)) (nomark _))
          (pw_and1 (pt_cmpR op_in_sign (pe_ix ix_str (pv 0) (pv 3) (fun _ _ => rfl)) (pv 2) rfl))))
        (pss_one (ps_aug (i := 3) scE.nd rfl (.inl rfl) pe_int ip_add)))
      (pss_one (ps_ret (pv 3)))), ?_⟩
    refine ⟨_, rfl, ?_⟩
    refine while_by (fun σ H' => H' = H ∧ ∃ j : Nat, σ = [some (.str z), some (.int (i : Int)), some (.str g), some (.int (j : Int))] ∧ j ≤ z.length ∧ j + ((tl z).drop j |>.takeWhile fun c => decide (c ∈ tl g)).length = i + ((tl z).drop i |>.takeWhile fun c => decide (c ∈ tl g)).length)
      (fun σ H' => match σ[3]? with | some (some (V.int j)) => z.length - j.toNat | _ => 0) ⟨rfl, i, rfl, hi, rfl⟩ ?_ ?_
    · rintro σ H' ⟨rfl, j, rfl, hj, e⟩
      refine ⟨_, rfl, _, rfl, z, rfl, z100 hz, _, _, rfl, rfl, _, rfl, ?_⟩
      by_cases hlt : j < z.length
      · rw [decide_eq_true (by omega : (j : Int) < (z.length : Int))]
        refine iteT ?_
        have hg : (tl z)[j]? = some (tl z)[j] := List.getElem?_eq_getElem hlt
        refine ⟨_, rfl, _, rfl, z, j, (tl z)[j], rfl, rfl, z100 hz, atI_nat hg, _, rfl, (tl z)[j], g, rfl, rfl, _, rfl, ?_⟩
        have hd : (tl z).drop j = (tl z)[j] :: (tl z).drop (j + 1) := List.drop_eq_getElem_cons hlt
        by_cases hm : (tl z)[j] ∈ tl g
        · rw [decide_eq_true hm]
          refine iteT ⟨_, rfl, _, _, rfl, rfl, ⟨rfl, j + 1, rfl, hlt, ?_⟩, ?_⟩
          · rw [hd, List.takeWhile_cons, if_pos (decide_eq_true hm), List.length_cons] at e
            omega
          · show z.length - ((j : Int) + 1).toNat < z.length - (j : Int).toNat
            omega
        · rw [decide_eq_false hm]
          refine iteF ⟨_, rfl, ?_⟩
          rw [hd, List.takeWhile_cons, if_neg (by rw [decide_eq_false hm]; decide)] at e
          have e' : j = i + ((tl z).drop i |>.takeWhile fun c => decide (c ∈ tl g)).length := by
            rw [← e]
            rfl
          rw [e']
          exact k
      · rw [decide_eq_false (by omega : ¬ (j : Int) < (z.length : Int))]
        refine iteF (iteF ⟨_, rfl, ?_⟩)
        have hd : (tl z).drop j = [] := List.drop_eq_nil_of_le (by rw [tl_len]; omega)
        rw [hd] at e
        have e' : j = i + ((tl z).drop i |>.takeWhile fun c => decide (c ∈ tl g)).length := by
          rw [← e]
          rfl
        rw [e']
        exact k
    · rintro σ H' Q Q' hq h
      obtain ⟨v, e1, u, e2, z', e3, hz', i1, i2, f1, f2, b, f3, h⟩ := h
      refine ⟨v, e1, u, e2, z', e3, hz', i1, i2, f1, f2, b, f3, ?_⟩
      cases b with
      | true =>
        obtain ⟨v, e1, u, e2, z', i', c, e3, e4, hz', ha, v2, e5, c', g', e6, e7, b, e8, h⟩ := h
        exact ⟨v, e1, u, e2, z', i', c, e3, e4, hz', ha, v2, e5, c', g', e6, e7, b, e8, hq _ _ h⟩
      | false => exact hq _ _ h
end
end K01
end of_K01A

section of_K01B
set_option maxRecDepth 100000
set_option maxHeartbeats 4000000
namespace K01
open PySem L2
abbrev S (l : List Nat) : Str := ⟨l.toArray⟩
theorem S_tl (z : Str) : S (tl z) = z := rfl
theorem tl_S (l : List Nat) : tl (S l) = l := rfl
theorem S_inj {a b : List Nat} (h : S a = S b) : a = b := by
  have := congrArg tl h
  simpa using this
abbrev D1 : Str := "=="
abbrev D2 : Str := "!="
abbrev D3 : Str := "<="
theorem cut2 {z : Str} {i : Nat} (hi : i ≤ z.length) : cutS z (some (i : Int)) (some ((i : Int) + 2)) = S (((tl z).drop i).take 2) := by
  unfold cutS
  rw [HT.sIx_nat, show ((i : Int) + 2) = ((i + 2 : Nat) : Int) by omega, HT.sIx_nat, Nat.min_eq_left hi]
  refine congrArg Str.mk (congrArg List.toArray ?_)
  by_cases h : i + 2 ≤ z.length
  · rw [Nat.min_eq_left h]
    have e : i + 2 - i = 2 := by omega
    rw [e]
  · rw [Nat.min_eq_right (by omega)]
    have hl : ∀ n, z.length - i ≤ n → ((tl z).drop i).take n = (tl z).drop i := fun n hn => List.take_of_length_le (by rw [List.length_drop]; exact hn)
    exact (hl _ (Nat.le_refl _)).trans (hl 2 (by omega)).symm
theorem cutSub {z : Str} {i j : Nat} (hi : i ≤ j) (hj : j ≤ z.length) : cutS z (some (i : Int)) (some (j : Int)) = S (((tl z).drop i).take (j - i)) := by
  unfold cutS
  rw [HT.sIx_nat, HT.sIx_nat, Nat.min_eq_left (show i ≤ z.length by omega), Nat.min_eq_left hj]
theorem in_dbl (c : Nat) (r : List Nat) : inV (.str (S ((c :: r).take 2))) [.str D1, .str D2, .str D3] = r.head?.any (dbl c) := by
  have e1 : D1 = S [61, 61] := by decide +kernel
  have e2 : D2 = S [33, 61] := by decide +kernel
  have e3 : D3 = S [60, 61] := by decide +kernel
  have q : ∀ a b : List Nat, (S a == S b) = decide (a = b) := fun a b => SX.S_beq_eq
  show ([V.str D1, .str D2, .str D3].any fun y => eqV y (.str (S ((c :: r).take 2)))) = _
  rw [e1, e2, e3]
  show ((S [61, 61] == S ((c :: r).take 2)) || ((S [33, 61] == S ((c :: r).take 2)) || ((S [60, 61] == S ((c :: r).take 2)) || false))) = _
  rw [q, q, q]
  cases r with
  | nil => simp
  | cons d r =>
    show _ = dbl c d
    have t2 : (c :: d :: r).take 2 = [c, d] := rfl
    rw [t2]
    unfold dbl
    rw [Bool.eq_iff_iff]
    simp
    omega
structure Txt (K : PySem.W.Frag) (mg : Str → Option Value) : Prop where
  len : mg "len" = none
  letters : ∃ u, mg "LETTERS" = some u ∧ RelV (.str LET) u
  figures : ∃ u, mg "FIGURES" = some u ∧ RelV (.str FIG) u
  single : ∃ u, mg "SINGLE" = some u ∧ RelV (.str SIN) u
  double : ∃ a, mg "DOUBLE" = some (.ref a) ∧ ∀ H, SqT K H a [.str D1, .str D2, .str D3]
section
variable {P : Program} {w : World} {K : PySem.W.Frag} {mg : Str → Option Value} {base : Heap}
/-! ### group_end -/
def spGrp : Sp := fun vs H Q _ => ∃ (z : Str) (i : Nat), vs = [.str z, .int (i : Int)] ∧ i < z.length ∧ z.length ≤ 100000 ∧ Q (.int (i + gLen ((tl z).drop i) : Nat)) H
theorem scG : FnScope ["text", "at"] ["text", "at"] (defScope sGrp) := ⟨rfl, rfl, rfl, by decide +kernel, rfl, by decide +kernel, by decide +kernel⟩
theorem ok_grp {f fE : Addr} {fd fdE : FuncData} (F : Fun K "group_end" "group_end" sGrp f fd) (T : Txt K mg) (FE : Fun K "end_of" "end_of" sEnd fE fdE) (bE : Binds K fdE ["text", "at", "signs"] []) (gE : mg "end_of" = some (.ref fE)) :
    FnOk P w K mg base CX0 2 f fd ["text", "at"] spGrp := by
  have GE : FnOk P w K mg base CX0 1 fE fdE ["text", "at", "signs"] spEnd := ok_end FE T.len
  obtain ⟨aD, gD, hD⟩ := T.double
  refine F.ok scG (fun vs H Q E h => ?_) (fun cdv A outer s H vs Q E hr h => ?_)
  · obtain ⟨z, i, rfl, _⟩ := h
    rfl
  · obtain ⟨z, i, rfl, hi, hz, k⟩ := h
    refine ⟨_, pss_cons (ps_if (pt_cmpR op_in_sign (pe_ix ix_str (pv 0) (pv 1) (fun _ _ => rfl)) (C8.pe_gc (by rfl) T.letters) rfl)
        (pss_one (ps_ret (pe_call GE hr (by rfl) gE FE.kp bE .nil pass0 (pa_cons (pv 0) (pa_cons (pv 1) (pa_cons (pe_op op_add_str (C8.pe_gc (by rfl) T.letters) (C8.pe_gc (by rfl) T.figures)) pa_nil)))))) pss_nil)
      (pss_cons (ps_if (pt_cmpR op_in_sign (pe_ix ix_str (pv 0) (pv 1) (fun _ _ => rfl)) (C8.pe_gc (by rfl) T.figures) rfl)
        (pss_one (ps_ret (pe_call GE hr (by rfl) gE FE.kp bE .nil pass0 (pa_cons (pv 0) (pa_cons (pv 1) (pa_cons (C8.pe_gc (by rfl) T.figures) pa_nil)))))) pss_nil)
      (pss_cons (ps_if (pt_cmpR op_in_seq (pe_slice sl_str (pv 0) (po_some (pv 1)) (po_some (pe_op op_add (pv 1) pe_int))) (pe_glob (v := .ref aD) (by rfl) gD rfl) (by rfl))
        (pss_one (ps_ret (pe_op op_add (pv 1) pe_int))) pss_nil)
      (pss_one (ps_ret (pe_ifExp (pt_cmpR op_in_sign (pe_ix ix_str (pv 0) (pv 1) (fun _ _ => rfl)) (C8.pe_gc (by rfl) T.single) rfl) (pe_op op_add (pv 1) pe_int) (pv 1)))))), ?_⟩
    have hg : (tl z)[i]? = some (tl z)[i] := List.getElem?_eq_getElem hi
    have hd : (tl z).drop i = (tl z)[i] :: (tl z).drop (i + 1) := List.drop_eq_getElem_cons hi
    generalize (tl z)[i] = c at hg hd
    have ix : atI (tl z) (i : Int) = some c := atI_nat hg
    have hzl := z100 hz
    rw [hd, gLen_cons] at k
    refine ⟨_, rfl, _, rfl, z, i, c, rfl, rfl, hzl, ix, c, LET, rfl, rfl, _, rfl, ?_⟩
    rw [mem_L]
    cases hL : isL c with
    | true =>
      refine iteT ?_
      rw [hL, if_pos rfl] at k
      refine ⟨_, rfl, _, rfl, LET, FIG, rfl, rfl, by rw [sizeLine_eq]; decide +kernel, z, LET ++ FIG, i, rfl, Nat.le_of_lt hi, hz, ?_⟩
      have e : (((tl z).drop i).takeWhile fun c => decide (c ∈ tl (LET ++ FIG))).length = 1 + (((tl z).drop (i + 1)).takeWhile isW).length := by
        have e2 : (fun c => decide (c ∈ tl (LET ++ FIG))) = isW := funext mem_W
        rw [e2, hd, List.takeWhile_cons, if_pos (by unfold isW; rw [hL]; rfl), List.length_cons, Nat.add_comm]
      rw [e]
      exact k
    | false =>
      refine iteF ?_
      rw [hL, if_neg (by decide)] at k
      refine ⟨_, rfl, _, rfl, z, i, c, rfl, rfl, hzl, ix, c, FIG, rfl, rfl, _, rfl, ?_⟩
      rw [mem_F]
      cases hF : isF c with
      | true =>
        refine iteT ?_
        rw [hF, if_pos rfl] at k
        refine ⟨_, rfl, _, rfl, z, FIG, i, rfl, Nat.le_of_lt hi, hz, ?_⟩
        have e : (((tl z).drop i).takeWhile fun c => decide (c ∈ tl FIG)).length = 1 + (((tl z).drop (i + 1)).takeWhile isF).length := by
          have e2 : (fun c => decide (c ∈ tl FIG)) = isF := funext mem_F
          rw [e2, hd, List.takeWhile_cons, if_pos hF, List.length_cons, Nat.add_comm]
        rw [e]
        exact k
      | false =>
        refine iteF ?_
        rw [hF, if_neg (by decide)] at k
        refine ⟨_, rfl, _, rfl, (i : Int), rfl, _, rfl, (i : Int), 2, rfl, rfl, ((i : Int) + 2), rfl, z, rfl, hzl, aD, _, rfl, .inr (hD _), rfl, by decide +kernel, _, rfl, ?_⟩
        rw [cut2 (Nat.le_of_lt hi), hd]
        show if (if false = true then !inV _ _ else inV (.str (S ((c :: (tl z).drop (i + 1)).take 2))) _) = true then _ else _
        rw [if_neg Bool.false_ne_true, in_dbl]
        cases hb : ((tl z).drop (i + 1)).head?.any (dbl c) with
        | true =>
          rw [hb, if_pos rfl] at k
          exact iteT ⟨_, rfl, _, _, rfl, rfl, k⟩
        | false =>
          rw [hb, if_neg (by decide)] at k
          refine iteF ⟨_, rfl, _, rfl, z, i, c, rfl, rfl, hzl, ix, c, SIN, rfl, rfl, _, rfl, ?_⟩
          rw [mem_S]
          cases hS : isS c with
          | true =>
            rw [hS, if_pos rfl] at k
            exact iteT ⟨_, rfl, _, _, rfl, rfl, k⟩
          | false =>
            rw [hS, if_neg (by decide)] at k
            exact iteF ⟨_, rfl, k⟩
end
end K01
end of_K01B

section of_K01C
set_option maxRecDepth 100000
set_option maxHeartbeats 4000000
namespace K01
open PySem L2 Evl
/-- the texts of some groups -/
abbrev gsV (gs : List (List Nat)) : List V := gs.map fun g => V.str (S g)
/-- what the program refuses with -/
def xAt (a b : Int) : HO := .xd [("at", .int a), ("why", .int b)]
/-- what groups makes of a value -/
def spGroups (K : PySem.W.Frag) (C : Addr) : Sp := fun vs H Q E => ∃ v, vs = [v] ∧
  ((∃ z : Str, v = .str z ∧ z.length ≤ 20000 ∧ (∀ gs, cutP [] (tl z) = .ok gs → ∀ H' p, Ex H H' → H p = none → H' p = some (.tup (gsV gs)) → Q (.ref p) H') ∧
      ∀ a b, cutP [] (tl z) = .error (a, b) → ∀ H' d, Ex H H' → H d = none → H' d = some (xAt a b) → E (.ref C) (some d) H') ∨
   (∃ z : Str, v = .str z ∧ 20000 < z.length ∧ z.length ≤ 100000 ∧ ∀ H' d, Ex H H' → H d = none → H' d = some (xAt (-1) 0) → E (.ref C) (some d) H') ∨
   (∃ t, TyX K H v t ∧ PySem.W.kitOne K t (.type "str") = some false ∧ ∀ H' d, Ex H H' → H d = none → H' d = some (xAt (-1) 0) → E (.ref C) (some d) H'))
structure TxtG (P : Program) (K : PySem.W.Frag) (mg : Str → Option Value) (C fI : Addr) : Prop extends Rx.Bts mg where
  X_InvalidText : Rx.XTxt P K mg C fI "InvalidText" ["at", "why"]
  MOST_SIGNS : ∃ u, mg "MOST_SIGNS" = some u ∧ RelV (.int 20000) u
  MOST_GROUPS : ∃ u, mg "MOST_GROUPS" = some u ∧ RelV (.int 4000) u
theorem kit_str (K : PySem.W.Frag) : PySem.W.kitOne K (.type "str") (.type "str") = some true := by
  unfold PySem.W.kitOne
  rw [if_pos (by decide)]
theorem tl_get {z : Str} {i : Nat} (h : i < z.length) : ∃ c, (tl z)[i]? = some c ∧ (tl z).drop i = c :: (tl z).drop (i + 1) :=
  ⟨(tl z)[i]'h, List.getElem?_eq_getElem h, List.drop_eq_getElem_cons h⟩
theorem in_blank (c : Nat) : inV (.str ⟨#[c]⟩) [.str (" " : Str), .str ("\n" : Str)] = isB c := by
  have e1 : (" " : Str) = S [32] := by decide +kernel
  have e2 : ("\n" : Str) = S [10] := by decide +kernel
  have q : ∀ a b : List Nat, (S a == S b) = decide (a = b) := fun a b => SX.S_beq_eq
  rw [e1, e2]
  show ((S [32] == S [c]) || ((S [10] == S [c]) || false)) = _
  rw [q, q]
  unfold isB
  rw [Bool.eq_iff_iff]
  simp
  omega
theorem gLen_le (cs : List Nat) : gLen cs ≤ cs.length := by
  cases cs with
  | nil => exact Nat.le_refl _
  | cons c r =>
    rw [gLen_cons, List.length_cons]
    have h1 : (r.takeWhile isW).length ≤ r.length := (List.takeWhile_prefix _).length_le
    have h2 : (r.takeWhile isF).length ≤ r.length := (List.takeWhile_prefix _).length_le
    split
    · omega
    split
    · omega
    split
    · rename_i h
      cases r with
      | nil => simp at h
      | cons d q => simp only [List.length_cons]; omega
    split <;> omega
section
variable {P : Program} {w : World} {K : PySem.W.Frag} {mg : Str → Option Value} {base : Heap}
abbrev s_groups : Stmt := top 12
theorem scS : FnScope ["text", "found", "at", "end"] ["text"] (defScope s_groups) := ⟨rfl, rfl, rfl, by decide +kernel, rfl, by decide +kernel, by decide +kernel⟩
theorem ok_groups {C fI : Addr} (D : DefT K mg "groups" s_groups ["text"]) (T : TxtG P K mg C fI) (c_group_end : DefAt P w K mg base CX0 2 "group_end" ["text", "at"] spGrp) : DefAt P w K mg base (L2.CX P w) 4 "groups" ["text"] (spGroups K C) := by
  refine D.okX scS (fun vs H Q E h => ?_) (fun f cdv A outer s H vs Q E hr h => ?_)
  · obtain ⟨v, rfl, _⟩ := h
    rfl
  · obtain ⟨v, rfl, h⟩ := h
    refine ⟨_, (pss_cons (ps_if (PW.pt (pw_or (pt_not (pt_val (pe_callB call_isi (by rfl) T.isinstance_ Rx.b_isinstance (pa_cons (pv 0) (pa_cons (pe_bltn (v := .ty "str") (by rfl) T.str_ Rx.b_str rfl) pa_nil))))) (pw_or1 (pt_cmpR op_gt (pe_callB call_len_str (by rfl) T.len_ Rx.b_len (pa_cons (pv 0) pa_nil)) (C8.pe_gc (by rfl) T.MOST_SIGNS) (nomark _)))))
      (pss_one (ps_raiseX rfl T.X_InvalidText (by simp) hr (takes_of rfl rfl rfl rfl) (pa_cons (pe_un un_neg pe_int) (pa_cons pe_int pa_nil))))
      pss_nil)
    (pss_cons (ps_par (i := 1) (j := 2) (by rfl) scS.nd rfl rfl (by decide) rfl rfl (pa_cons (pe_lst pa_nil) (pa_cons pe_int pa_nil)) (by rfl))
    (pss_cons (ps_while (passes_of rfl) (pt_cmpR op_lt (pv 2) (pe_callB call_len_str (by rfl) T.len_ Rx.b_len (pa_cons (pv 0) pa_nil)) (nomark _))
      (pss_one (ps_if (pt_cmpR op_in_seq (pe_ix ix_str (pv 0) (pv 2) (fun _ _ => rfl)) (pe_tup (pa_cons pe_str (pa_cons pe_str pa_nil))) (by rfl))
        (pss_one (ps_aug (i := 2) scS.nd rfl (Or.inl rfl) pe_int ip_add))
        (pss_cons (ps_set (i := 3) scS.nd rfl (Or.inl rfl) (pe_d c_group_end hr (by decide) (by rfl) (pa_cons (pv 0) (pa_cons (pv 2) pa_nil))))
        (pss_cons (ps_if (pt_cmpR op_eq (pv 3) (pv 2) (nomark _))
          (pss_one (ps_raiseX rfl T.X_InvalidText (by simp) hr (takes_of rfl rfl rfl rfl) (pa_cons (pe_callB call_len_seq (by rfl) T.len_ Rx.b_len (pa_cons (pv 1) pa_nil)) (pa_cons pe_int pa_nil))))
          pss_nil)
        (pss_cons (ps_if (pt_cmpR op_eq (pe_callB call_len_seq (by rfl) T.len_ Rx.b_len (pa_cons (pv 1) pa_nil)) (C8.pe_gc (by rfl) T.MOST_GROUPS) (nomark _))
          (pss_one (ps_raiseX rfl T.X_InvalidText (by simp) hr (takes_of rfl rfl rfl rfl) (pa_cons (C8.pe_gc (by rfl) T.MOST_GROUPS) (pa_cons pe_int pa_nil))))
          pss_nil)
        (pss_cons (ps_expr (pe_bm PySem.F.plainAttrs_list PySem.F.slot_list_append PySem.F.type_list_append mt_append (pv 1) (pa_cons (pe_slice sl_str (pv 0) (po_some (pv 2)) (po_some (pv 3))) pa_nil)))
        (pss_one (ps_set (i := 2) scS.nd rfl (Or.inl rfl) (pv 3))))))))))
    (pss_one (ps_ret (pe_tupleOf (by rfl) T.tuple_ (pv 1))))))), ?_⟩
    have bad : ∀ (σ : St) (H' : Hp), Ex H H' → (∀ d, H' d = none → E (.ref C) (some d) (upd H' d (xAt (-1) 0))) → tMkX C ["at", "why"] (tCons (tUn (rU fun i => .int (-i)) (tC (.int 1))) (tCons (tC (.int 0)) tNil)) σ H' fun cls d H'' => E cls d H'' :=
      fun σ H' _ h => ⟨1, rfl, rfl, fun d hd => h d hd⟩
    rcases h with ⟨z, rfl, hz, kok, kerr⟩ | ⟨z, rfl, hz, hz2, k⟩ | ⟨t, ht, hk, k⟩
    · refine ⟨_, rfl, _, _, _, _, true, rfl, .ty "str", .base (.str z), kit_str K, true, rfl, ?_⟩
      refine iteF ⟨_, rfl, z, rfl, z100 (by omega), _, _, rfl, rfl, _, rfl, ?_⟩
      rw [decide_eq_false (by omega : ¬ (20000 : Int) < (z.length : Int))]
      refine iteF ⟨Nat.zero_le _, fun p hp => ⟨_, _, rfl, ?_⟩⟩
      have hH : Ex H (upd H p (.lst [])) := Ex.new hp
      refine while_by (fun σ H' => ∃ (gs : List (List Nat)) (j : Nat) (v : Option V), σ = [some (.str z), some (.ref p), some (.int (j : Int)), v] ∧ j ≤ z.length ∧ gs.length ≤ j ∧ H' p = some (.lst (gsV gs)) ∧ Ex H H' ∧ cutP gs ((tl z).drop j) = cutP [] (tl z))
        (fun σ H' => match σ[2]? with | some (some (V.int j)) => z.length - j.toNat | _ => 0) ⟨[], 0, none, rfl, Nat.zero_le _, Nat.le_refl _, upd_same, hH, rfl⟩ ?_ ?_
      · rintro σ H' ⟨gs, j, v, rfl, hj, hgl, hl, hx, e⟩
        refine ⟨_, rfl, _, rfl, z, rfl, z100 (by omega), _, _, rfl, rfl, _, rfl, ?_⟩
        by_cases hlt : j < z.length
        · rw [decide_eq_true (by omega : (j : Int) < (z.length : Int))]
          refine iteT ?_
          obtain ⟨c, hc, hd⟩ := tl_get hlt
          refine ⟨_, rfl, _, rfl, z, j, c, rfl, rfl, z100 (by omega), atI_nat hc, by show 2 ≤ sizeLine; decide, fun q hq => ?_⟩
          have npq : p ≠ q := ne_of_none hl hq
          have hx2 : Ex H (upd H' q (.tup [.str " ", .str "\n"])) := hx.trans (Ex.new hq)
          have hl2 : (upd H' q (.tup [.str " ", .str "\n"])) p = some (.lst (gsV gs)) := by rw [upd_ne npq]; exact hl
          refine ⟨q, _, rfl, .inr (SqT.of upd_same), rfl, rfl, _, rfl, ?_⟩
          generalize upd H' q (.tup [.str " ", .str "\n"]) = H2 at hx2 hl2
          show if (if false = true then !inV _ _ else inV (.str ⟨#[c]⟩) [.str (" " : Str), .str ("\n" : Str)]) = true then _ else _
          rw [if_neg Bool.false_ne_true, in_blank]
          cases hb : isB c with
          | true =>
            refine iteT ⟨_, rfl, _, _, rfl, rfl, ⟨gs, j + 1, v, rfl, hlt, by omega, hl2, hx2, ?_⟩, ?_⟩
            · rw [hd, cutP_blank gs hb] at e
              exact e
            · show z.length - ((j : Int) + 1).toNat < z.length - (j : Int).toNat
              omega
          | false =>
            refine iteF ?_
            refine ⟨_, rfl, _, rfl, z, j, rfl, hlt, by omega, ?_⟩
            have gle : gLen ((tl z).drop j) ≤ z.length - j := by
              have := gLen_le ((tl z).drop j)
              rw [List.length_drop] at this
              exact this
            rw [hd, cutP_cons gs hb, ← hd] at e
            generalize hn : gLen ((tl z).drop j) = n at e gle
            refine ⟨_, rfl, _, rfl, rfl, _, rfl, ?_⟩
            by_cases hz0 : n = 0
            · subst hz0
              rw [if_pos rfl] at e
              rw [decide_eq_true (show V.int ((j + 0 : Nat) : Int) = V.int (j : Int) from rfl)]
              refine iteT ⟨_, rfl, p, _, rfl, .inl (SqL.of hl2), rfl, fun d hd => ?_⟩
              refine kerr gs.length 1 e.symm _ d (hx2.trans (Ex.new hd)) (fresh_back hx2 hd) ?_
              rw [upd_same]
              show some (HO.xd [(("at" : Str), V.int ((gsV gs).length : Int)), ("why", V.int 1)]) = some (xAt (gs.length : Nat) (1 : Nat))
              rw [List.length_map]
              rfl
            · rw [if_neg hz0] at e
              have ne : ¬ V.int ((j + n : Nat) : Int) = V.int (j : Int) := fun q => by
                have := V.int.inj q
                omega
              rw [decide_eq_false ne]
              refine iteF ⟨_, rfl, p, _, rfl, .inl (SqL.of hl2), rfl, _, rfl, ?_⟩
              rw [List.length_map]
              by_cases h4 : gs.length = 4000
              · rw [if_pos h4] at e
                rw [decide_eq_true (show V.int ((gs.length : Nat) : Int) = V.int 4000 by rw [h4] <;> rfl)]
                refine iteT ⟨rfl, fun d hd => ?_⟩
                exact kerr 4000 2 e.symm _ d (hx2.trans (Ex.new hd)) (fresh_back hx2 hd) upd_same
              · rw [if_neg h4] at e
                have ne4 : ¬ V.int ((gs.length : Nat) : Int) = V.int 4000 := fun q => by
                  have := V.int.inj q
                  omega
                rw [decide_eq_false ne4]
                refine iteF ⟨_, rfl, .inl ⟨rfl, _, SqL.of hl2⟩, _, rfl, _, rfl, (j : Int), rfl, _, rfl, ((j + n : Nat) : Int), rfl, z, rfl, z100 (by omega), p, _, _, rfl, rfl, hl2, ?_, ?_⟩
                · rw [List.length_map, sizeLine_eq]
                  omega
                · refine ⟨_, rfl, ⟨gs ++ [((tl z).drop j).take n], j + n, some (.int ((j + n : Nat) : Int)), rfl, by omega, ?_, ?_, hx2.mut hp, ?_⟩, ?_⟩
                  · rw [List.length_append, List.length_singleton]
                    omega
                  · rw [upd_same, cutSub (by omega) (by omega)]
                    have e1 : j + n - j = n := by omega
                    have e2 : gsV (gs ++ [((tl z).drop j).take n]) = gsV gs ++ [V.str (S (((tl z).drop j).take n))] := List.map_append
                    rw [e1, e2]
                  · rw [← e, List.drop_drop]
                  · show z.length - ((j + n : Nat) : Int).toNat < z.length - (j : Int).toNat
                    omega
        · rw [decide_eq_false (by omega : ¬ (j : Int) < (z.length : Int))]
          refine iteF ⟨_, rfl, .inl ⟨p, _, rfl, SqL.of hl, fun q hq => ?_⟩⟩
          have hd : (tl z).drop j = [] := List.drop_eq_nil_of_le (by rw [tl_len]; omega)
          rw [hd, cutP_nil] at e
          exact kok gs e.symm _ q (hx.trans (Ex.new hq)) (fresh_back hx hq) upd_same
      · rintro σ H' Q Q' hq h
        obtain ⟨v, e1, u, e2, z', e3, hz', i1, i2, f1, f2, b, f3, h⟩ := h
        exact ⟨v, e1, u, e2, z', e3, hz', i1, i2, f1, f2, b, f3, hq _ _ h⟩
    · refine ⟨_, rfl, _, _, _, _, true, rfl, .ty "str", .base (.str z), kit_str K, true, rfl, ?_⟩
      refine iteF ⟨_, rfl, z, rfl, z100 hz2, _, _, rfl, rfl, _, rfl, ?_⟩
      rw [decide_eq_true (by omega : (20000 : Int) < (z.length : Int))]
      exact iteT ⟨1, rfl, rfl, fun d hd => k _ d (Ex.new hd) hd upd_same⟩
    · refine ⟨_, rfl, _, _, t, _, false, rfl, .ty "str", ht, hk, false, rfl, ?_⟩
      exact iteT (iteT ⟨1, rfl, rfl, fun d hd => k _ d (Ex.new hd) hd upd_same⟩)
end
end K01
end of_K01C

section of_K01D
set_option maxRecDepth 100000
set_option maxHeartbeats 4000000
/-! The law's source of draws: _law_box, _law_take, _law_pick. -/
namespace Bx
open PySem L2 Evl
def top (i : Nat) : Stmt := PySem.Challenge.pw_runscarried_k01_whole_texts_cut_into_gro.main.body.getD i (.Pass ⟨0, 0, 0, 0⟩)
abbrev s__law_box : Stmt := top 14
abbrev s__law_take : Stmt := top 15
abbrev s__law_pick : Stmt := top 16
/-- a box stands at b: what is left of great cells, and a number -/
def BoxAt (H : Hp) (b : Addr) : Prop := ∃ (r : Addr) (ns : List Int) (z : Int), H b = some (.lst [.ref r, .int z]) ∧ H r = some (.lst (ns.map V.int)) ∧ (∀ n ∈ ns, 0 ≤ n) ∧ ns.length ≤ 63 ∧ 0 ≤ z ∧ z < 2147483648
theorem BoxAt.ex {H H' : Hp} {b : Addr} (e : Ex H H') (B : BoxAt H b) : BoxAt H' b := by
  obtain ⟨r, ns, z, h1, h2, h3⟩ := B
  exact ⟨r, ns, z, e _ _ h1, e _ _ h2, h3⟩
def spBox (K : PySem.W.Frag) : Sp := fun vs H Q _ => ∃ (a : Addr) (ns : List Int), vs = [.ref a] ∧ SqL K H a (ns.map V.int) ∧ ns.length ≤ 63 ∧ ∀ b H', H b = none → Ex H H' → BoxAt H' b → Q (.ref b) H'
def spTake : Sp := fun vs H Q _ => ∃ (b : Addr) (m : Int), vs = [.ref b, .int m] ∧ BoxAt H b ∧ 0 < m ∧ m < 1073741824 ∧ ∀ r H', ExB b H H' → BoxAt H' b → 0 ≤ r → r < m → Q (.int r) H'
def spPick (K : PySem.W.Frag) : Sp := fun vs H Q _ => ∃ (b p : Addr) (xs : List V), vs = [.ref b, .ref p] ∧ BoxAt H b ∧ SqL K H p xs ∧ p ≠ b ∧ xs ≠ [] ∧ xs.length ≤ 100000 ∧ ∀ v H', v ∈ xs → ExB b H H' → BoxAt H' b → Q v H'
theorem cut1 (xs : List V) : cutV xs (some 1) none = xs.drop 1 := by
  unfold cutV
  rw [show HT.sIx xs.length 0 (some 1) = min 1 xs.length from HT.sIx_nat xs.length 0 1, HT.sIx_none]
  cases xs with
  | nil => rfl
  | cons x r =>
    have e : min 1 (x :: r).length = 1 := by simp
    rw [e]
    show r.take ((x :: r).length - 1) = r
    exact List.take_of_length_le (by simp)
section
variable {P : Program} {w : World} {K : PySem.W.Frag} {mg : Str → Option Value} {base : Heap}
theorem scT : FnScope ["box", "many", "cell"] ["box", "many"] (defScope s__law_take) := ⟨rfl, rfl, rfl, by decide +kernel, rfl, by decide +kernel, by decide +kernel⟩
theorem ok_take (D : DefT K mg "_law_take" s__law_take ["box", "many"]) (T : Rx.Bts mg) : DefAt P w K mg base CX0 1 "_law_take" ["box", "many"] spTake := by
  refine D.ok scT (fun vs H Q E h => ?_) (fun f cdv A outer s H vs Q E hr h => ?_)
  · obtain ⟨b, m, rfl, _⟩ := h
    rfl
  · obtain ⟨b, m, rfl, B, hm, hm2, k⟩ := h
    obtain ⟨r, ns, z, hb, hrr, hnn, hl, hz, hz2⟩ := B
    have nrb : r ≠ b := fun e => by
      rw [e, hb] at hrr
      cases ns with
      | nil => cases hrr
      | cons n ns => cases hrr
    refine ⟨_, (pss_cons (ps_if (pt_cmpR (op_neD hr.units) (pe_ix ix_list (pv 0) pe_int (fun _ _ => rfl)) (pe_lst pa_nil) (nomark _))
      (pss_cons (ps_set (i := 2) scT.nd rfl (Or.inl rfl) (pe_ix ix_list (pe_ix ix_list (pv 0) pe_int (fun _ _ => rfl)) pe_int (fun _ _ => rfl)))
      (pss_cons (ps_asg (pe_op op_cat (pe_ifExp (pt_cmpR op_ge (pv 2) (pv 1) (nomark _)) (pe_lst (pa_cons (pe_op op_fdiv (pv 2) (pv 1)) pa_nil)) (pe_lst pa_nil)) (pe_slice sl_list (pe_ix ix_list (pv 0) pe_int (fun _ _ => rfl)) (po_some pe_int) po_none)) (pg_sub (pv 0) pe_int set_list))
      (pss_one (ps_ret (pe_op op_mod (pe_callTy call_int1 (by rfl) T.int_ Rx.b_int (pa_cons (pv 2) pa_nil)) (pv 1))))))
      pss_nil)
    (pss_cons (ps_asg (pe_op op_mod (pe_callTy call_int1 (by rfl) T.int_ Rx.b_int (pa_cons (pe_op op_mul (pe_ix ix_list (pv 0) pe_int (fun _ _ => rfl)) pe_int) pa_nil)) pe_int) (pg_sub (pv 0) pe_int set_list))
    (pss_one (ps_ret (pe_op op_mod (pe_callTy call_int1 (by rfl) T.int_ Rx.b_int (pa_cons (pe_op op_fdiv (pe_op op_add (pe_op op_mul (pe_ix ix_list (pv 0) pe_int (fun _ _ => rfl)) pe_int) pe_int) pe_int) pa_nil)) (pv 1)))))), ?_⟩
    refine ⟨_, rfl, b, _, 0, .ref r, rfl, rfl, SqL.of hb, atI_nat (j := 0) rfl, Nat.zero_le _, fun q hq => ?_⟩
    have x1 : Ex H (upd H q (.lst [])) := Ex.new hq
    have hb1 := x1 _ _ hb
    have hr1 := x1 _ _ hrr
    refine ⟨.list (ns.map PyData.int), .list [], .lst (SqL.of hr1) (dp_ints ns), .lst (SqL.of upd_same) .nil, shaped_ints ns, shaped_nil, _, rfl, ?_⟩
    rw [eqv_nil]
    generalize upd H q (.lst []) = H1 at x1 hb1 hr1
    cases ns with
    | nil =>
      refine iteF ?_
      refine ⟨_, rfl, b, _, 1, .int z, rfl, rfl, SqL.of hb1, atI_nat (j := 1) rfl, z, 48271, rfl, rfl, .inr ⟨by decide, by decide⟩, .inl ⟨_, rfl, _, _, rfl, rfl, (show (0 : Int) < 2147483647 by decide), ?_⟩⟩
      refine ⟨_, rfl, b, _, 1, 1, rfl, rfl, hb1, rfl, ?_⟩
      have hzz : 0 ≤ z * 48271 % 2147483647 ∧ z * 48271 % 2147483647 < 2147483647 := ⟨Int.emod_nonneg _ (by decide), Int.emod_lt_of_pos _ (by decide)⟩
      refine ⟨_, rfl, b, _, 1, _, rfl, rfl, SqL.of upd_same, atI_nat (j := 1) rfl, _, 69621, rfl, rfl, .inr ⟨by decide, by decide⟩, _, _, rfl, rfl, _, _, rfl, rfl, (show CDiv _ 1013 from ⟨by decide, by decide⟩), .inl ⟨_, rfl, _, rfl, _, _, rfl, rfl, hm, ?_⟩⟩
      refine k _ _ (ExB.put (ExB.of x1)) ⟨r, [], _, upd_same, ?_, by simp, by simp, hzz.1, by omega⟩ (Int.emod_nonneg _ (by omega)) (Int.emod_lt_of_pos _ hm)
      rw [upd_ne nrb]
      exact hr1
    | cons c ns =>
      have hc : 0 ≤ c := hnn c (List.mem_cons_self ..)
      refine iteT ?_
      refine ⟨_, rfl, b, _, 0, .ref r, rfl, rfl, SqL.of hb1, atI_nat (j := 0) rfl, r, _, 0, .int c, rfl, rfl, SqL.of hr1, atI_nat (j := 0) rfl, ?_⟩
      refine ⟨_, rfl, _, rfl, _, _, rfl, rfl, _, rfl, ?_⟩
      refine ite2 (fun hge => ?_) (fun _ => ?_)
      · refine ⟨_, rfl, _, rfl, _, _, rfl, rfl, ⟨hm, hm2⟩, by show 1 ≤ sizeLine; decide, fun p1 hp1 => ?_⟩
        have x2 : Ex H1 (upd H1 p1 (.lst [.int (c / m)])) := Ex.new hp1
        refine ⟨_, rfl, b, _, 0, .ref r, rfl, rfl, SqL.of (x2 _ _ hb1), atI_nat (j := 0) rfl, 1, rfl, r, _, rfl, SqL.of (x2 _ _ hr1), fun p2 hp2 => ?_⟩
        refine ⟨p1, p2, _, _, rfl, rfl, by rw [upd_ne (ne_of_none upd_same hp2)]; exact upd_same, upd_same, by rw [cut1, sizeLine_eq]; simp only [List.length_map, List.length_drop, List.length_cons, List.length_nil] at hl ⊢; omega, fun p hp => ?_⟩
        have x4 := fun o => (x2.trans (Ex.new hp2)).trans (Ex.new (o := o) hp)
        refine ⟨_, rfl, b, _, 0, 0, rfl, rfl, x4 _ _ _ hb1, rfl, ?_⟩
        have npb : p ≠ b := fun e => by
          rw [e] at hp
          rw [(x2.trans (Ex.new hp2)) _ _ hb1] at hp
          cases hp
        refine ⟨_, rfl, .inl ⟨_, rfl, _, rfl, _, _, rfl, rfl, hm, ?_⟩⟩
        refine k _ _ (ExB.put (ExB.of (x1.trans (x4 _)))) ⟨p, [c / m] ++ ns, z, upd_same, ?_, fun n hn => ?_, ?_, hz, hz2⟩ (Int.emod_nonneg _ (by omega)) (Int.emod_lt_of_pos _ hm)
        · rw [upd_ne npb, upd_same, cut1]
          rfl
        · rcases List.mem_append.mp hn with h | h
          · rw [List.mem_singleton.mp h]
            exact Int.ediv_nonneg hc (by omega)
          · exact hnn n (List.mem_cons_of_mem _ h)
        · simp only [List.length_append, List.length_cons, List.length_nil] at hl ⊢
          omega
      · refine ⟨Nat.zero_le _, fun p1 hp1 => ?_⟩
        have x2 : Ex H1 (upd H1 p1 (.lst [])) := Ex.new hp1
        refine ⟨_, rfl, b, _, 0, .ref r, rfl, rfl, SqL.of (x2 _ _ hb1), atI_nat (j := 0) rfl, 1, rfl, r, _, rfl, SqL.of (x2 _ _ hr1), fun p2 hp2 => ?_⟩
        refine ⟨p1, p2, _, _, rfl, rfl, by rw [upd_ne (ne_of_none upd_same hp2)]; exact upd_same, upd_same, by rw [cut1, sizeLine_eq]; simp only [List.length_map, List.length_drop, List.length_cons, List.length_nil] at hl ⊢; omega, fun p hp => ?_⟩
        have x4 := fun o => (x2.trans (Ex.new hp2)).trans (Ex.new (o := o) hp)
        refine ⟨_, rfl, b, _, 0, 0, rfl, rfl, x4 _ _ _ hb1, rfl, ?_⟩
        have npb : p ≠ b := fun e => by
          rw [e] at hp
          rw [(x2.trans (Ex.new hp2)) _ _ hb1] at hp
          cases hp
        refine ⟨_, rfl, .inl ⟨_, rfl, _, rfl, _, _, rfl, rfl, hm, ?_⟩⟩
        refine k _ _ (ExB.put (ExB.of (x1.trans (x4 _)))) ⟨p, [] ++ ns, z, upd_same, ?_, fun n hn => ?_, ?_, hz, hz2⟩ (Int.emod_nonneg _ (by omega)) (Int.emod_lt_of_pos _ hm)
        · rw [upd_ne npb, upd_same, cut1]
          rfl
        · rcases List.mem_append.mp hn with h | h
          · cases h
          · exact hnn n (List.mem_cons_of_mem _ h)
        · simp only [List.length_append, List.length_cons, List.length_nil] at hl ⊢
          omega
theorem scP : FnScope ["box", "some"] ["box", "some"] (defScope s__law_pick) := ⟨rfl, rfl, rfl, by decide +kernel, rfl, by decide +kernel, by decide +kernel⟩
theorem ok_pick (D : DefT K mg "_law_pick" s__law_pick ["box", "some"]) (T : Rx.Bts mg) (c__law_take : DefAt P w K mg base CX0 1 "_law_take" ["box", "many"] spTake) : DefAt P w K mg base CX0 2 "_law_pick" ["box", "some"] (spPick K) := by
  refine D.ok scP (fun vs H Q E h => ?_) (fun f cdv A outer s H vs Q E hr h => ?_)
  · obtain ⟨b, p, xs, rfl, _⟩ := h
    rfl
  · obtain ⟨b, p, xs, rfl, B, hS, npb, hne, hl, k⟩ := h
    have hp : 0 < xs.length := List.length_pos_iff.mpr hne
    refine ⟨_, (pss_one (ps_ret (pe_ix ix_list (pv 1) (pe_d c__law_take hr (by decide) (by rfl) (pa_cons (pv 0) (pa_cons (pe_callB call_len_seq (by rfl) T.len_ Rx.b_len (pa_cons (pv 1) pa_nil)) pa_nil))) (fun _ _ => rfl)))), ?_⟩
    refine ⟨_, rfl, _, rfl, _, rfl, p, _, rfl, .inl hS, b, _, rfl, B, by omega, by omega, fun r H' x B' h0 h1 => ?_⟩
    have hr' : r.toNat < xs.length := by omega
    have hg : xs[r.toNat]? = some xs[r.toNat] := List.getElem?_eq_getElem hr'
    refine ⟨p, xs, r, xs[r.toNat], rfl, rfl, x.seq hS npb, ?_, k _ _ (List.getElem_mem hr') x B'⟩
    exact at_of (by omega) hg
theorem cut63 {xs : List V} (h : xs.length ≤ 63) : cutV xs none (some 63) = xs := by
  unfold cutV
  rw [HT.sIx_none, show HT.sIx xs.length xs.length (some 63) = min 63 xs.length from HT.sIx_nat xs.length xs.length 63, List.drop_zero, Nat.sub_zero]
  exact List.take_of_length_le (by omega)
theorem scB : FnScope ["script", "rest", "state", "k", "cell", "size"] ["script"] (defScope s__law_box) := ⟨rfl, rfl, rfl, by decide +kernel, rfl, by decide +kernel, by decide +kernel⟩
theorem ok_box (D : DefT K mg "_law_box" s__law_box ["script"]) (T : Rx.Bts mg) : DefAt P w K mg base CX0 1 "_law_box" ["script"] (spBox K) := by
  refine D.ok scB (fun vs H Q E h => ?_) (fun f cdv A outer s H vs Q E hr h => ?_)
  · obtain ⟨a, ns, rfl, _⟩ := h
    rfl
  · obtain ⟨a, ns, rfl, hS, hl, k⟩ := h
    refine ⟨_, (pss_cons (ps_par (i := 1) (j := 2) (by rfl) scB.nd rfl rfl (by decide) rfl rfl (pa_cons (pe_lst pa_nil) (pa_cons pe_int pa_nil)) (by rfl))
    (pss_cons (ps_for PassesOwn.never rfl (pi_enum (by rfl) T.enumerate_ (pa_cons (pe_slice sl_list (pv 0) po_none (po_some pe_int)) pa_nil)) (pg_tup rfl (pgs_cons (pg_name (i := 3) scB.nd rfl (Or.inl rfl)) (pgs_cons (pg_name (i := 4) scB.nd rfl (Or.inl rfl)) pgs_nil)))
      (pss_cons (ps_set (i := 5) scB.nd rfl (Or.inl rfl) (pe_op op_add (pe_op op_mul (pe_callB call_abs (by rfl) T.abs_ Rx.b_abs (pa_cons (pv 4) pa_nil)) pe_int) (pe_callTy call_int1 (by rfl) T.int_ Rx.b_int (pa_cons (pe_cmpR op_lt (pv 4) pe_int (nomark _)) pa_nil))))
      (pss_cons (ps_if (pt_cmpR op_ge (pe_callB call_abs (by rfl) T.abs_ Rx.b_abs (pa_cons (pv 4) pa_nil)) (pe_op op_pow pe_int pe_int) (nomark _))
        (pss_one (ps_expr (pe_bm PySem.F.plainAttrs_list PySem.F.slot_list_append PySem.F.type_list_append mt_append (pv 1) (pa_cons (pe_callB call_abs (by rfl) T.abs_ Rx.b_abs (pa_cons (pv 4) pa_nil)) pa_nil))))
        pss_nil)
      (pss_one (ps_set (i := 2) scB.nd rfl (Or.inl rfl) (pe_op op_add (pe_op op_mod (pe_callTy call_int1 (by rfl) T.int_ Rx.b_int (pa_cons (pe_op op_add (pe_op op_add (pe_op op_mul (pv 2) pe_int) (pe_op op_mul (pe_op op_mod (pe_callTy call_int1 (by rfl) T.int_ Rx.b_int (pa_cons (pv 5) pa_nil)) pe_int) (pe_op op_add (pe_op op_mul pe_int (pv 3)) pe_int))) pe_int) pa_nil)) pe_int) pe_int))))))
    (pss_one (ps_ret (pe_lst (pa_cons (pv 1) (pa_cons (pv 2) pa_nil))))))), ?_⟩
    refine ⟨Nat.zero_le _, fun p hp => ⟨_, _, rfl, ?_⟩⟩
    have x1 : Ex H (upd H p (.lst [])) := Ex.new hp
    refine ⟨_, rfl, 63, rfl, a, _, rfl, ex_l x1 hS, fun q hq => ?_⟩
    rw [cut63 (by rw [List.length_map]; exact hl)]
    have x2 : Ex H (upd (upd H p (.lst [])) q (.lst (ns.map V.int))) := x1.trans (Ex.new hq)
    have npq : p ≠ q := ne_of_none upd_same hq
    refine ⟨q, _, rfl, SqL.of upd_same, for_it walk_enum (fun i σ H' => ∃ (rs : List Int) (z : Int) (v3 v4 v5 : Option V), σ = [some (.ref a), some (.ref p), some (.int z), v3, v4, v5] ∧ Ex H H' ∧ H' q = some (.lst (ns.map V.int)) ∧ H' p = some (.lst (rs.map V.int)) ∧ (∀ n ∈ rs, 0 ≤ n) ∧ rs.length ≤ i ∧ 0 ≤ z ∧ z < 2147483648)
      ⟨[], 40503, none, none, none, rfl, x2, upd_same, by rw [upd_ne npq]; exact upd_same, by simp, Nat.le_refl _, by decide, by decide⟩ (fun i σ H' _ ⟨_, _, _, _, _, _, _, h, _⟩ => SqL.of h) ?_ ?_⟩
    · rintro i x σ H' H2 hi ⟨rs, z, v3, v4, v5, rfl, hx, hq', hp', hnn, hlr, hz, hz2⟩ ⟨T1, x1', x2', rfl, nT, rfl, e1, e2⟩
      cases e1
      rw [List.length_map] at hi
      have e2' : x2' = .int ns[i] := by
        have e2 : (ns.map V.int)[i]? = some x2' := e2
        rw [List.getElem?_map, List.getElem?_eq_getElem hi] at e2
        exact (Option.some.inj e2).symm
      subst e2'
      generalize ns[i] = c
      have hx3 : Ex H (upd H' T1 (.tup [.int (i : Int), .int c])) := hx.trans (Ex.new nT)
      have hq3 : (upd H' T1 (.tup [.int (i : Int), .int c])) q = some (.lst (ns.map V.int)) := by rw [upd_ne (ne_of_none hq' nT)]; exact hq'
      have hp3 : (upd H' T1 (.tup [.int (i : Int), .int c])) p = some (.lst (rs.map V.int)) := by rw [upd_ne (ne_of_none hp' nT)]; exact hp'
      refine ⟨T1, _, rfl, .inl (.inl upd_same), rfl, _, _, rfl, _, _, rfl, rfl, ?_⟩
      generalize upd H' T1 (.tup [.int (i : Int), .int c]) = H3 at hx3 hq3 hp3
      refine ⟨_, rfl, _, rfl, _, _, rfl, rfl, .inr ⟨by decide, by decide⟩, _, rfl, _, _, rfl, rfl, .inr ⟨_, rfl, _, _, rfl, rfl, ?_⟩⟩
      refine ⟨_, rfl, _, rfl, _, _, rfl, rfl, ⟨by decide, by decide, by decide⟩, _, _, rfl, rfl, _, rfl, ?_⟩
      have hi63 : (i : Int) ≤ 63 := by omega
      have last : ∀ (sz : Int) (rs' : List Int) (H4 : Hp), Ex H H4 → H4 q = some (.lst (ns.map V.int)) → H4 p = some (.lst (rs'.map V.int)) → (∀ n ∈ rs', 0 ≤ n) → rs'.length ≤ i + 1 → 0 ≤ (z * 48271 + sz % 2147483629 * (2 * (i : Int) + 69621) + 11) % 2147483629 + 1 ∧ (z * 48271 + sz % 2147483629 * (2 * (i : Int) + 69621) + 11) % 2147483629 + 1 < 2147483648 := fun sz _ _ _ _ _ _ _ => by
        have h1 := Int.emod_nonneg (z * 48271 + sz % 2147483629 * (2 * (i : Int) + 69621) + 11) (show (2147483629 : Int) ≠ 0 by decide)
        have h2 := Int.emod_lt_of_pos (z * 48271 + sz % 2147483629 * (2 * (i : Int) + 69621) + 11) (show (0 : Int) < 2147483629 by decide)
        omega
      refine ite2 (fun _ => ?_) (fun _ => ?_)
      · refine ⟨_, rfl, .inl ⟨rfl, _, SqL.of hp3⟩, _, rfl, _, rfl, p, _, _, rfl, rfl, hp3, by rw [List.length_map, sizeLine_eq]; omega, ?_⟩
        refine ⟨_, rfl, _, _, rfl, rfl, .inr ⟨by decide, by decide⟩, _, rfl, .inl ⟨_, rfl, _, _, rfl, rfl, (show (0 : Int) < 2147483629 by decide), _, rfl, _, _, rfl, rfl, .inl ⟨by decide, by decide⟩, _, _, rfl, rfl, _, _, rfl, rfl, .inr ⟨?_, ?_⟩, _, _, rfl, rfl, _, _, rfl, rfl, .inl ⟨_, rfl, _, _, rfl, rfl, (show (0 : Int) < 2147483629 by decide), _, _, rfl, rfl, ?_⟩⟩⟩
        · show -(2 ^ 64) < 2 * (i : Int) + 69621
          omega
        · show 2 * (i : Int) + 69621 < 2 ^ 64
          omega
        · have e : rs.map V.int ++ [V.int (if c < 0 then -c else c)] = (rs ++ [if c < 0 then -c else c]).map V.int := by simp
          refine ⟨rs ++ [if c < 0 then -c else c], _, _, _, _, rfl, hx3.mut hp, ?_, ?_, fun n hn => ?_, ?_, (last _ rs H3 hx3 hq3 hp3 hnn (by omega)).1, (last _ rs H3 hx3 hq3 hp3 hnn (by omega)).2⟩
          · rw [upd_ne (Ne.symm npq)]
            exact hq3
          · rw [upd_same, e]
          · rcases List.mem_append.mp hn with h | h
            · exact hnn n h
            · rw [List.mem_singleton.mp h]
              split <;> omega
          · rw [List.length_append, List.length_singleton]
            omega
      · refine ⟨_, rfl, _, _, rfl, rfl, .inr ⟨by decide, by decide⟩, _, rfl, .inl ⟨_, rfl, _, _, rfl, rfl, (show (0 : Int) < 2147483629 by decide), _, rfl, _, _, rfl, rfl, .inl ⟨by decide, by decide⟩, _, _, rfl, rfl, _, _, rfl, rfl, .inr ⟨?_, ?_⟩, _, _, rfl, rfl, _, _, rfl, rfl, .inl ⟨_, rfl, _, _, rfl, rfl, (show (0 : Int) < 2147483629 by decide), _, _, rfl, rfl, ?_⟩⟩⟩
        · show -(2 ^ 64) < 2 * (i : Int) + 69621
          omega
        · show 2 * (i : Int) + 69621 < 2 ^ 64
          omega
        · exact ⟨rs, _, _, _, _, rfl, hx3, hq3, hp3, hnn, by omega, (last _ rs H3 hx3 hq3 hp3 hnn (by omega)).1, (last _ rs H3 hx3 hq3 hp3 hnn (by omega)).2⟩
    · rintro σ H' ⟨rs, z, v3, v4, v5, rfl, hx, hq', hp', hnn, hlr, hz, hz2⟩
      rw [List.length_map] at hlr
      refine ⟨_, rfl, _, rfl, by show 2 ≤ sizeLine; decide, fun b hb => ?_⟩
      have npb : p ≠ b := ne_of_none hp' hb
      refine k b _ (fresh_back hx hb) (hx.trans (Ex.new hb)) ⟨p, rs, z, upd_same, ?_, hnn, by omega, hz, hz2⟩
      rw [upd_ne npb]
      exact hp'
end
end Bx
end of_K01D

section of_K01E
set_option maxRecDepth 100000
set_option maxHeartbeats 4000000
/-! The law's look whether two things are one: _law_is. -/
namespace Ix
open PySem L2 Evl
def top (i : Nat) : Stmt := PySem.Challenge.pw_runscarried_k01_whole_texts_cut_into_gro.main.body.getD i (.Pass ⟨0, 0, 0, 0⟩)
abbrev s__law_is : Stmt := top 17
section
variable {P : Program} {w : World} {K : PySem.W.Frag} {mg : Str → Option Value} {base : Heap}
theorem scI : FnScope ["told", "due", "one", "other"] ["told", "due"] (defScope s__law_is) := ⟨rfl, rfl, rfl, by decide +kernel, rfl, by decide +kernel, by decide +kernel⟩
theorem nil_nil : PyData.eqv (.list []) (.list []) = true := by
  rw [eqv_nil]
  rfl
theorem ok_is (D : DefT K mg "_law_is" s__law_is ["told", "due"]) (T : Rx.Bts mg) : ∀ n : Nat, DefAt P w K mg base CX0 n "_law_is" ["told", "due"] (spIsN K n)
  | 0 => D.zero
  | n + 1 => by
    have c__law_is : DefAt P w K mg base CX0 n "_law_is" ["told", "due"] (spIsN K n) := ok_is D T n
    refine D.ok scI (fun vs H Q E h => ?_) (fun f cdv A outer s H vs Q E hr h => ?_)
    · obtain ⟨x, y, d, rfl, _⟩ := h
      rfl
    · obtain ⟨x, y, d, rfl, hx, hy, hp, k⟩ := h
      refine ⟨_, (pss_cons (ps_if (pt_val (pe_callB call_isi (by rfl) T.isinstance_ Rx.b_isinstance (pa_cons (pv 1) (pa_cons (pe_bltn (v := .ty "tuple") (by rfl) T.tuple_ Rx.b_tuple rfl) pa_nil))))
      (pss_cons (ps_if (PW.pt (pw_or (pt_not (pt_val (pe_callB call_isi (by rfl) T.isinstance_ Rx.b_isinstance (pa_cons (pv 0) (pa_cons (pe_bltn (v := .ty "tuple") (by rfl) T.tuple_ Rx.b_tuple rfl) pa_nil))))) (pw_or1 (pt_cmpR op_ne (pe_callB call_len_seq (by rfl) T.len_ Rx.b_len (pa_cons (pv 0) pa_nil)) (pe_callB call_len_seq (by rfl) T.len_ Rx.b_len (pa_cons (pv 1) pa_nil)) (nomark _)))))
        (pss_one (ps_ret pe_bl))
        pss_nil)
      (pss_one (ps_ret (pe_cmpR (op_eqD hr.units) (pe_lc (own := [("one", 2), ("other", 3)]) (g := gTup K 2 (gCons (gName 2) (gCons (gName 3) gNil))) rfl scI.nd (RZ.pi_zipA (by rfl) T.zip_ (pa_cons (pv 0) (pa_cons (pv 1) pa_nil))) (blkOk_by (N := ["told", "due", "one", "other"]) (sc := defScope s__law_is) (by decide +kernel)) (fun _ _ _ _ _ => (pg_tup rfl (pgs_cons (pg_name (i := 2) scI.nd rfl (Or.inl rfl)) (pgs_cons (pg_name (i := 3) scI.nd rfl (Or.inl rfl)) pgs_nil)))) (fun _ _ _ _ _ => (pts_one (pt_not (pt_val (pe_d c__law_is hr (Nat.le_refl _) (by rfl) (pa_cons (pv 2) (pa_cons (pv 3) pa_nil))))))) (fun _ _ _ _ _ => pe_int)) (pe_lst pa_nil) (nomark _)))))
      pss_nil)
    (pss_cons (ps_if (PW.pt (pw_or (pt_cmpR op_isN (pv 1) pe_non (nomark _)) (pw_or (pt_cmpR op_isBool (pv 1) pe_bl (nomark _)) (pw_or1 (pt_cmpR op_isBool (pv 1) pe_bl (nomark _))))))
      (pss_one (ps_ret (pe_ifExp (pt_cmpR op_isN (pv 1) pe_non (nomark _)) (pe_cmpR op_isN (pv 0) pe_non (nomark _)) (pe_ifExp (pt_cmpR op_isBool (pv 1) pe_bl (nomark _)) (pe_cmpR op_isBool (pv 0) pe_bl (nomark _)) (pe_cmpR op_isBool (pv 0) pe_bl (nomark _))))))
      pss_nil)
    (pss_cons (ps_if (pt_val (pe_callB call_isi (by rfl) T.isinstance_ Rx.b_isinstance (pa_cons (pv 1) (pa_cons (pe_bltn (v := .ty "int") (by rfl) T.int_ Rx.b_int rfl) pa_nil))))
      (pss_one (ps_ret (pe_and (pe_callB call_isi (by rfl) T.isinstance_ Rx.b_isinstance (pa_cons (pv 0) (pa_cons (pe_bltn (v := .ty "int") (by rfl) T.int_ Rx.b_int rfl) pa_nil))) (pe_and (pe_not (pe_callB call_isi (by rfl) T.isinstance_ Rx.b_isinstance (pa_cons (pv 0) (pa_cons (pe_bltn (v := .ty "bool") (by rfl) T.bool_ Rx.b_bool rfl) pa_nil)))) (pe_one (pe_cmpR op_eq (pv 0) (pv 1) (nomark _)))))))
      pss_nil)
    (pss_one (ps_ret (pe_and (pe_callB call_isi (by rfl) T.isinstance_ Rx.b_isinstance (pa_cons (pv 1) (pa_cons (pe_bltn (v := .ty "str") (by rfl) T.str_ Rx.b_str rfl) pa_nil))) (pe_and (pe_callB call_isi (by rfl) T.isinstance_ Rx.b_isinstance (pa_cons (pv 0) (pa_cons (pe_bltn (v := .ty "str") (by rfl) T.str_ Rx.b_str rfl) pa_nil))) (pe_one (pe_cmpR op_eq (pv 0) (pv 1) (nomark _)))))))))), ?_⟩
      cases hx with
      | tup hX aX =>
        rename_i a xs ds
        cases hy with
        | tup hY aY =>
          rename_i b ys
          cases hp with
          | tup hps =>
            rename_i m
            have hlx := aX.len
            have hly := aY.len
            refine ⟨_, rfl, _, _, _, _, true, rfl, .ty "tuple", (Dp.tup hY aY).ty, kit_ty (by decide +kernel), true, rfl, iteT ?_⟩
            refine ⟨_, rfl, _, _, _, _, true, rfl, .ty "tuple", (Dp.tup hX aX).ty, kit_ty (by decide +kernel), true, rfl, iteF ?_⟩
            refine ⟨_, rfl, a, _, rfl, .inr hX, _, rfl, b, _, rfl, .inr hY, rfl, _, rfl, iteNS (by rw [hlx, hly]) ?_⟩
            refine ⟨_, rfl, _, rfl, a, b, xs, ys, rfl, .inr ⟨hX, hY, fun L hL => ?_⟩⟩
            refine lc_it (walk_zipT (n := ds.length) hlx.symm hly.symm) (fun i H' => Ex H H' ∧ H' L = some (.lst [])) ⟨Ex.new hL, upd_same⟩ (fun i H' _ h => ⟨ex_t h.1 hX, ex_t h.1 hY⟩) ?_ ?_
            · rintro i v H1 H2 hi ⟨hx1, hL1⟩ ⟨T1, x1, y1, rfl, nT, rfl, e1, e2⟩
              obtain ⟨d1, hd1, hdx⟩ := aX.get e1
              obtain ⟨d2, hd2, hdy⟩ := aY.get e2
              have e3 : d1 = d2 := Option.some.inj (hd1.symm.trans hd2)
              subst e3
              have hx2 : Ex H (upd H1 T1 (.tup [x1, y1])) := hx1.trans (Ex.new nT)
              have hL2 : (upd H1 T1 (.tup [x1, y1])) L = some (.lst []) := by rw [upd_ne (ne_of_none hL1 nT)]; exact hL1
              refine ⟨T1, _, rfl, .inl (.inl upd_same), rfl, _, _, rfl, _, _, rfl, rfl, rfl, _, rfl, _, rfl, ?_⟩
              generalize upd H1 T1 (.tup [x1, y1]) = H3 at hx2 hL2
              exact ⟨x1, y1, d1, rfl, hdx.ex hx2, hdy.ex hx2, hps.get hd1, fun H4 hx4 => ⟨true, rfl, iteF ⟨hx2.trans hx4, hx4 _ _ hL2⟩⟩⟩
            · rintro H' ⟨hx1, hL1⟩
              refine ⟨Nat.zero_le _, fun q hq => ⟨.list [], .list [], .lst (SqL.of (by rw [upd_ne (ne_of_none hL1 hq)]; exact hL1)) .nil, .lst (SqL.of upd_same) .nil, shaped_nil, shaped_nil, ?_⟩⟩
              rw [nil_nil]
              exact k _ (hx1.trans (Ex.new hq))
      | non =>
        cases hy
        refine ⟨_, rfl, _, _, _, _, false, rfl, .ty "tuple", Dp.non.ty, kit_ty (by decide +kernel), false, rfl, iteF ?_⟩
        refine ⟨_, rfl, rfl, _, rfl, iteT (iteT ?_)⟩
        exact ⟨_, rfl, rfl, _, rfl, iteT ⟨_, rfl, rfl, k _ (Ex.refl _)⟩⟩
      | bl b =>
        cases hy
        refine ⟨_, rfl, _, _, _, _, false, rfl, .ty "tuple", (Dp.bl b).ty, kit_ty (by decide +kernel), false, rfl, iteF ?_⟩
        refine ⟨_, rfl, rfl, _, rfl, iteF ?_⟩
        cases b with
        | true =>
          refine ⟨_, rfl, _, rfl, _, rfl, iteT (iteT ?_)⟩
          exact ⟨_, rfl, rfl, _, rfl, iteF ⟨_, rfl, _, rfl, _, rfl, iteT ⟨_, rfl, _, rfl, k _ (Ex.refl _)⟩⟩⟩
        | false =>
          refine ⟨_, rfl, _, rfl, _, rfl, iteF ⟨_, rfl, _, rfl, _, rfl, iteT ?_⟩⟩
          exact ⟨_, rfl, rfl, _, rfl, iteF ⟨_, rfl, _, rfl, _, rfl, iteF ⟨_, rfl, _, rfl, k _ (Ex.refl _)⟩⟩⟩
      | int i =>
        cases hy
        refine ⟨_, rfl, _, _, _, _, false, rfl, .ty "tuple", (Dp.int i).ty, kit_ty (by decide +kernel), false, rfl, iteF ?_⟩
        refine ⟨_, rfl, rfl, _, rfl, iteF ⟨_, rfl, _, rfl, _, rfl, iteF ⟨_, rfl, _, rfl, _, rfl, iteF ?_⟩⟩⟩
        refine ⟨_, rfl, _, _, _, _, true, rfl, .ty "int", (Dp.int i).ty, kit_ty (by decide +kernel), true, rfl, iteT ?_⟩
        refine ⟨_, rfl, _, _, _, _, true, rfl, .ty "int", (Dp.int i).ty, kit_ty (by decide +kernel), true, rfl, iteT ?_⟩
        refine ⟨_, rfl, _, _, _, _, false, rfl, .ty "bool", (Dp.int i).ty, kit_ty (by decide +kernel), false, rfl, true, rfl, iteT ?_⟩
        refine ⟨_, rfl, _, rfl, rfl, ?_⟩
        rw [decide_eq_true rfl]
        exact k _ (Ex.refl _)
      | str z =>
        cases hy
        refine ⟨_, rfl, _, _, _, _, false, rfl, .ty "tuple", (Dp.str z).ty, kit_ty (by decide +kernel), false, rfl, iteF ?_⟩
        refine ⟨_, rfl, rfl, _, rfl, iteF ⟨_, rfl, _, rfl, _, rfl, iteF ⟨_, rfl, _, rfl, _, rfl, iteF ?_⟩⟩⟩
        refine ⟨_, rfl, _, _, _, _, false, rfl, .ty "int", (Dp.str z).ty, kit_ty (by decide +kernel), false, rfl, iteF ?_⟩
        refine ⟨_, rfl, _, _, _, _, true, rfl, .ty "str", (Dp.str z).ty, kit_ty (by decide +kernel), true, rfl, iteT ?_⟩
        refine ⟨_, rfl, _, _, _, _, true, rfl, .ty "str", (Dp.str z).ty, kit_ty (by decide +kernel), true, rfl, iteT ?_⟩
        refine ⟨_, rfl, _, rfl, rfl, ?_⟩
        rw [decide_eq_true rfl]
        exact k _ (Ex.refl _)
      | lst _ _ => cases hp
end
end Ix
end of_K01E

section of_K01F
set_option maxRecDepth 100000
set_option maxHeartbeats 4000000
/-! The law's own cutting: _law_cut. -/
namespace K01
open PySem L2 Evl
abbrev s__law_cut : Stmt := top 18
def base0 (c : Nat) : Nat := if isL c then 97 else if isF c then 49 else c
theorem sortOf_eq (c last : Nat) : sortOf c last = if base0 c = 49 ∧ last = 97 then 97 else base0 c := rfl
/-- the text's own cutting, as a new list -/
def spCut : Sp := fun vs H Q _ => ∃ z : Str, vs = [.str z] ∧ z.length ≤ 1000 ∧ (∀ c ∈ tl z, c < 1114112) ∧ ∀ H' p, Ex H H' → H p = none → H' p = some (.lst (gsV (lawCut [] 32 32 (tl z)))) → Q (.ref p) H'
theorem eq1 (a b : Nat) : decide (V.str ⟨#[a]⟩ = V.str ⟨#[b]⟩) = decide (a = b) := by
  rw [Bool.eq_iff_iff]
  simp
theorem s_a : ("a" : Str) = ⟨#[97]⟩ := by decide +kernel
theorem s_1 : ("1" : Str) = ⟨#[49]⟩ := by decide +kernel
theorem s_2 : ("2" : Str) = ⟨#[50]⟩ := by decide +kernel
theorem s_b : (" " : Str) = ⟨#[32]⟩ := by decide +kernel
theorem in_a1 (c : Nat) : inV (.str ⟨#[c]⟩) [.str ("a" : Str), .str ("1" : Str)] = (decide (c = 97) || decide (c = 49)) := by
  rw [s_a, s_1]
  have q : ∀ a b : List Nat, (S a == S b) = decide (a = b) := fun a b => SX.S_beq_eq
  show ((S [97] == S [c]) || ((S [49] == S [c]) || false)) = _
  rw [q, q]
  rw [Bool.eq_iff_iff]
  simp
  omega
theorem in_dbl2 (p c : Nat) : inV (.str ((⟨#[p]⟩ : Str) ++ (⟨#[c]⟩ : Str))) [.str D1, .str D2, .str D3] = dbl p c := in_dbl p [c]
theorem gs_ok {gs : List (List Nat)} (h : ∀ g ∈ gs, ∀ c ∈ g, c < 1114112) : SeqAt.shaped (.list ((gs.map S).map PyData.str)) = true ∧ SeqAt.shaped (.tuple ((gs.map S).map PyData.str)) = true :=
  shaped_strs fun z hz => by
    obtain ⟨g, hg, rfl⟩ := List.mem_map.mp hz
    unfold PyData.strOk
    simpa using h g hg
section
variable {P : Program} {w : World} {K : PySem.W.Frag} {mg : Str → Option Value} {base : Heap}
theorem gs_dp {H : Hp} (gs : List (List Nat)) : DpAll K H (gsV gs) ((gs.map S).map PyData.str) := by
  have e : gsV gs = (gs.map S).map V.str := by simp [gsV]
  rw [e]
  exact dp_strs _
/-- found[:-1] + [found[-1] + sign] -/
theorem tGlue (σ : St) (H : Hp) (Q : VK) (h : ∃ (p : Addr) (gs : List (List Nat)) (g : List Nat) (c : Nat), σ[2]? = some (some (.ref p)) ∧ H p = some (.lst (gsV (gs ++ [g]))) ∧ σ[5]? = some (some (.str ⟨#[c]⟩)) ∧ g.length ≤ 100000 ∧ gs.length ≤ 100000 ∧
      ∀ H' q, Ex H H' → H q = none → H' q = some (.lst (gsV (gs ++ [g ++ [c]]))) → Q (.ref q) H') :
    tOp rCat (tSl (rSlL K) (tVar 2) tNoPart (tPart (tUn (rU fun i => V.int (-i)) (tC (V.int 1))))) (tLst (tCons (tOp (fun x y H Q => ∃ i j, x = V.str i ∧ y = V.str j ∧ i.length + j.length ≤ sizeLine ∧ Q (V.str (i ++ j)) H) (tOp (rIxL K) (tVar 2) (tUn (rU fun i => V.int (-i)) (tC (V.int 1)))) (tVar 5)) tNil)) σ H Q := by
  obtain ⟨p, gs, g, c, h2, hp, h5, hg, hgs, k⟩ := h
  have e0 : gsV (gs ++ [g]) = gsV gs ++ [V.str (S g)] := List.map_append
  rw [e0] at hp
  refine ⟨_, h2, 1, rfl, _, rfl, p, _, rfl, SqL.of hp, fun a ha => ?_⟩
  rw [cutLast, List.dropLast_concat]
  have x1 : Ex H (upd H a (.lst (gsV gs))) := Ex.new ha
  have h1 := x1 _ _ hp
  have n1 : (upd H a (.lst (gsV gs))) a = some (.lst (gsV gs)) := upd_same
  generalize upd H a (.lst (gsV gs)) = H1 at x1 h1 n1
  refine ⟨_, h2, 1, rfl, p, _, -1, V.str (S g), rfl, rfl, SqL.of h1, atI_last _ _, _, h5, _, _, rfl, rfl, ?_, by show 1 ≤ sizeLine; decide, fun b hb => ?_⟩
  · rw [sizeLine_eq]
    show g.length + 1 ≤ _
    omega
  · refine ⟨a, b, _, _, rfl, rfl, by rw [upd_ne (ne_of_none n1 hb)]; exact n1, upd_same, ?_, fun q hq => ?_⟩
    · rw [sizeLine_eq, List.length_map]
      simp only [List.length_cons, List.length_nil]
      omega
    · have x2 := (x1.trans (Ex.new hb (o := .lst [V.str (S g ++ ⟨#[c]⟩)])))
      refine k _ q (x2.trans (Ex.new hq)) (fresh_back x2 hq) ?_
      rw [upd_same]
      have e1 : gsV (gs ++ [g ++ [c]]) = gsV gs ++ [V.str (S (g ++ [c]))] := List.map_append
      rw [e1]
      have e2 : S g ++ (⟨#[c]⟩ : Str) = S (g ++ [c]) := by
        refine congrArg Str.mk ?_
        simp
      rw [e2]
theorem scC : FnScope ["text", "letters", "found", "last", "at", "sign", "sort", "glued"] ["text"] (defScope s__law_cut) := ⟨rfl, rfl, rfl, by decide +kernel, rfl, by decide +kernel, by decide +kernel⟩
theorem ok_cut (D : DefT K mg "_law_cut" s__law_cut ["text"]) (T : Rx.Bts mg) : DefAt P w K mg base CX0 1 "_law_cut" ["text"] spCut := by
  refine D.ok scC (fun vs H Q E h => ?_) (fun f cdv A outer s H vs Q E hr h => ?_)
  · obtain ⟨z, rfl, _⟩ := h
    rfl
  · obtain ⟨z, rfl, hz, hcs, k⟩ := h
    refine ⟨_, (pss_cons (ps_set (i := 1) scC.nd rfl (Or.inl rfl) pe_str)
    (pss_cons (ps_par (i := 2) (j := 3) (by rfl) scC.nd rfl rfl (by decide) rfl rfl (pa_cons (pe_lst pa_nil) (pa_cons pe_str pa_nil)) (by rfl))
    (pss_cons (ps_for PassesOwn.never rfl (pi_enumS (by rfl) T.enumerate_ (pa_cons (pv 0) pa_nil)) (pg_tup rfl (pgs_cons (pg_name (i := 4) scC.nd rfl (Or.inl rfl)) (pgs_cons (pg_name (i := 5) scC.nd rfl (Or.inl rfl)) pgs_nil)))
      (pss_cons (PS.imp (t' := fun D σ H => ∃ c, σ[5]? = some (some (.str ⟨#[c]⟩)) ∧ σ[1]? = some (some (.str LET)) ∧ D.nx (σ.set 6 (some (.str ⟨#[base0 c]⟩))) H)
        (ps_set (i := 6) scC.nd rfl (Or.inl rfl) (pe_ifExp (pt_cmpR op_in_sign (pv 5) (pv 1) (by rfl)) pe_str (pe_ifExp (pt_cmpR op_in_sign (pv 5) pe_str (by rfl)) pe_str (pv 5)))) (fun D σ H ⟨c, h5, h1, q⟩ => by
          refine ⟨_, h5, _, h1, c, LET, rfl, rfl, _, rfl, ?_⟩
          rw [show decide (c ∈ LET.cps.toList) = isL c from mem_L c]
          unfold base0 at q
          cases hL : isL c with
          | true =>
            rw [hL, if_pos rfl] at q
            exact iteT (by rw [s_a]; exact q)
          | false =>
            rw [hL, if_neg (by decide)] at q
            refine iteF ⟨_, h5, c, FIG, rfl, rfl, _, rfl, ?_⟩
            rw [show decide (c ∈ FIG.cps.toList) = isF c from mem_F c]
            cases hF : isF c with
            | true =>
              rw [hF, if_pos rfl] at q
              exact iteT (by rw [s_1]; exact q)
            | false =>
              rw [hF, if_neg (by decide)] at q
              exact iteF ⟨_, h5, q⟩))
      (pss_cons (PS.imp (t' := fun D σ H => ∃ b l, σ[6]? = some (some (.str ⟨#[b]⟩)) ∧ σ[3]? = some (some (.str ⟨#[l]⟩)) ∧ D.nx (σ.set 6 (some (.str ⟨#[if b = 49 ∧ l = 97 then 97 else b]⟩))) H)
        (ps_if (PW.pt (pw_and (pt_cmpR op_eq (pv 6) pe_str (nomark _)) (pw_and1 (pt_cmpR op_eq (pv 3) pe_str (nomark _)))))
        (pss_one (ps_set (i := 6) scC.nd rfl (Or.inl rfl) pe_str))
        pss_nil) (fun D σ H ⟨b, l, h6, h3, q⟩ => by
          have hself : ¬ (b = 49 ∧ l = 97) → D.nx σ H := fun hn => by
            rw [if_neg hn] at q
            have e : σ.set 6 (some (.str ⟨#[b]⟩)) = σ := by
              obtain ⟨hlt, he⟩ := List.getElem?_eq_some_iff.mp h6
              rw [← he]
              exact List.set_getElem_self hlt
            rw [e] at q
            exact q
          refine ⟨_, h6, rfl, _, rfl, ?_⟩
          rw [s_1, eq1]
          by_cases hb : b = 49
          · rw [decide_eq_true hb]
            refine iteT ⟨_, h3, rfl, _, rfl, ?_⟩
            rw [s_a, eq1]
            by_cases hl : l = 97
            · rw [decide_eq_true hl]
              rw [if_pos ⟨hb, hl⟩] at q
              exact iteT q
            · rw [decide_eq_false hl]
              exact iteF (hself fun h => hl h.2)
          · rw [decide_eq_false hb]
            exact iteF (hself fun h => hb h.1)))
      (pss_cons (ps_set (i := 7) scC.nd rfl (Or.inl rfl) (PE.imp (t' := fun σ H Q => ∃ (i c l : Nat) (p : Addr) (gs : List (List Nat)) (pr : Nat), σ[0]? = some (some (.str z)) ∧ σ[2]? = some (some (.ref p)) ∧ H p = some (.lst (gsV gs)) ∧ (∀ g ∈ gs, ∀ c ∈ g, c < 1114112) ∧ σ[3]? = some (some (.str ⟨#[l]⟩)) ∧ σ[4]? = some (some (.int (i : Int))) ∧ σ[5]? = some (some (.str ⟨#[c]⟩)) ∧ (gs ≠ [] → 0 < i ∧ (tl z)[i - 1]? = some pr) ∧
          ∀ H', Ex H H' → Q (.bl (decide (gs ≠ [] ∧ dbl pr c = true ∧ l ≠ 50))) H')
        (pe_and (pe_cmpR (op_neD hr.units) (pv 2) (pe_lst pa_nil) (nomark _)) (pe_and (pe_cmpR op_in_seq (pe_op op_add_str (pe_ix ix_str (pv 0) (pe_op op_sub (pv 4) pe_int) (fun _ _ => rfl)) (pv 5)) (pe_tup (pa_cons pe_str (pa_cons pe_str (pa_cons pe_str pa_nil)))) (by rfl)) (pe_one (pe_cmpR op_ne (pv 3) pe_str (nomark _)))))
        (fun σ H Q ⟨i, c, l, p, gs, pr, h0, h2, hp, hok, h3, h4, h5, hpr, q⟩ => by
          refine ⟨_, h2, Nat.zero_le _, fun a ha => ⟨_, _, .lst (SqL.of (by rw [upd_ne (ne_of_none hp ha)]; exact hp)) (gs_dp gs), .lst (SqL.of upd_same) .nil, (gs_ok hok).1, shaped_nil, _, rfl, ?_⟩⟩
          rw [eqv_nil]
          have x1 : Ex H (upd H a (.lst [])) := Ex.new ha
          generalize upd H a (.lst []) = H1 at x1
          cases gs with
          | nil => exact iteF (q _ x1)
          | cons g gs =>
            obtain ⟨hi, hpr⟩ := hpr (by simp)
            refine iteT ⟨_, h0, _, h4, _, _, rfl, rfl, z, _, pr, rfl, rfl, z100 (by omega), (show atI (tl z) _ = _ from ?_), ?_⟩
            · rw [show ((i : Int) - 1) = ((i - 1 : Nat) : Int) by omega]
              exact atI_nat hpr
            refine ⟨_, h5, _, _, rfl, rfl, by rw [sizeLine_eq]; show 1 + 1 ≤ _; decide, by show 3 ≤ sizeLine; decide, fun b hb => ⟨b, _, rfl, .inr (SqT.of upd_same), rfl, rfl, _, rfl, ?_⟩⟩
            have x2 : Ex H (upd H1 b (.tup [.str D1, .str D2, .str D3])) := x1.trans (Ex.new hb)
            generalize upd H1 b (.tup [.str D1, .str D2, .str D3]) = H2 at x2
            show if (if false = true then !inV _ _ else inV (.str ((⟨#[pr]⟩ : Str) ++ (⟨#[c]⟩ : Str))) [.str D1, .str D2, .str D3]) = true then _ else _
            rw [if_neg Bool.false_ne_true, in_dbl2]
            cases hd : dbl pr c with
            | false =>
              refine iteF ?_
              have z := q _ x2
              rw [hd, decide_eq_false (fun h => absurd h.2.1 Bool.false_ne_true)] at z
              exact z
            | true =>
              refine iteT ⟨_, h3, rfl, ?_⟩
              have z := q _ x2
              rw [hd] at z
              rw [s_2, eq1]
              have e : (!decide (l = 50)) = decide (g :: gs ≠ [] ∧ true = true ∧ l ≠ 50) := by
                rw [Bool.eq_iff_iff]
                simp
              rw [e]
              exact z)))
      (pss_cons (ps_if (PT.imp (t' := fun σ H Q => ∃ (p : Addr) (gs : List (List Nat)) (so l : Nat), σ[2]? = some (some (.ref p)) ∧ H p = some (.lst (gsV gs)) ∧ (∀ g ∈ gs, ∀ c ∈ g, c < 1114112) ∧ σ[6]? = some (some (.str ⟨#[so]⟩)) ∧ σ[3]? = some (some (.str ⟨#[l]⟩)) ∧
          ∀ H', Ex H H' → Q (decide (gs ≠ [] ∧ so = l ∧ (so = 97 ∨ so = 49))) H')
        (PW.pt (pw_and (pt_cmpR (op_neD hr.units) (pv 2) (pe_lst pa_nil) (nomark _)) (pw_and (pt_cmpR op_eq (pv 6) (pv 3) (nomark _)) (pw_and1 (pt_cmpR op_in_seq (pv 6) (pe_tup (pa_cons pe_str (pa_cons pe_str pa_nil))) (by rfl))))))
        (fun σ H Q ⟨p, gs, so, l, h2, hp, hok, h6, h3, q⟩ => by
          refine ⟨_, h2, Nat.zero_le _, fun a ha => ⟨_, _, .lst (SqL.of (by rw [upd_ne (ne_of_none hp ha)]; exact hp)) (gs_dp gs), .lst (SqL.of upd_same) .nil, (gs_ok hok).1, shaped_nil, _, rfl, ?_⟩⟩
          rw [eqv_nil]
          have x1 : Ex H (upd H a (.lst [])) := Ex.new ha
          generalize upd H a (.lst []) = H1 at x1
          cases gs with
          | nil => exact iteF (q _ x1)
          | cons g gs =>
            refine iteT ⟨_, h6, _, h3, rfl, _, rfl, ?_⟩
            rw [eq1]
            by_cases hs : so = l
            · rw [decide_eq_true hs]
              refine iteT ⟨_, h6, by show 2 ≤ sizeLine; decide, fun b hb => ⟨b, _, rfl, .inr (SqT.of upd_same), rfl, rfl, _, rfl, ?_⟩⟩
              have x2 := x1.trans (Ex.new hb (o := .tup [.str "a", .str "1"]))
              show Q (if false = true then !inV _ _ else inV (.str ⟨#[so]⟩) [.str ("a" : Str), .str ("1" : Str)]) _
              rw [if_neg Bool.false_ne_true, in_a1]
              have z := q _ x2
              have e : (decide (so = 97) || decide (so = 49)) = decide (g :: gs ≠ [] ∧ so = l ∧ (so = 97 ∨ so = 49)) := by
                rw [Bool.eq_iff_iff]
                simp [hs]
              rw [e]
              exact z
            · rw [decide_eq_false hs]
              refine iteF ?_
              have z := q _ x1
              rw [decide_eq_false (fun h => hs h.2.1)] at z
              exact z))
        (pss_one (ps_set (i := 2) scC.nd rfl (Or.inl rfl) (pe_op op_cat (pe_slice sl_list (pv 2) po_none (po_some (pe_un un_neg pe_int))) (pe_lst (pa_cons (pe_op op_add_str (pe_ix ix_list (pv 2) (pe_un un_neg pe_int) (fun _ _ => rfl)) (pv 5)) pa_nil)))))
        (pss_one (ps_if (pt_val (pv 7))
          (pss_cons (ps_set (i := 2) scC.nd rfl (Or.inl rfl) (pe_op op_cat (pe_slice sl_list (pv 2) po_none (po_some (pe_un un_neg pe_int))) (pe_lst (pa_cons (pe_op op_add_str (pe_ix ix_list (pv 2) (pe_un un_neg pe_int) (fun _ _ => rfl)) (pv 5)) pa_nil))))
          (pss_one (ps_set (i := 6) scC.nd rfl (Or.inl rfl) pe_str)))
          (pss_one (PS.imp (t' := fun D σ H => ∃ (p : Addr) (gs : List (List Nat)) (c : Nat), σ[2]? = some (some (.ref p)) ∧ H p = some (.lst (gsV gs)) ∧ σ[5]? = some (some (.str ⟨#[c]⟩)) ∧ gs.length ≤ 100000 ∧ (isB c = true → ∀ H', Ex H H' → D.nx σ H') ∧
              (isB c = false → ∀ H' q, Ex H H' → H q = none → H' q = some (.lst (gsV (gs ++ [[c]]))) → D.nx (σ.set 2 (some (.ref q))) H'))
            (ps_if (pt_cmpR op_notIn_seq (pv 5) (pe_tup (pa_cons pe_str (pa_cons pe_str pa_nil))) (by rfl))
            (pss_one (ps_set (i := 2) scC.nd rfl (Or.inl rfl) (pe_op op_cat (pv 2) (pe_lst (pa_cons (pv 5) pa_nil)))))
            pss_nil) (fun D σ H ⟨p, gs, c, h2, hp, h5, hg, k1, k2⟩ => by
              refine ⟨_, h5, by show 2 ≤ sizeLine; decide, fun a ha => ⟨a, _, rfl, .inr (SqT.of upd_same), rfl, rfl, _, rfl, ?_⟩⟩
              have x1 : Ex H (upd H a (.tup [.str " ", .str "\n"])) := Ex.new ha
              generalize upd H a (.tup [.str " ", .str "\n"]) = H1 at x1
              show if (if true = true then !inV (.str ⟨#[c]⟩) [.str (" " : Str), .str ("\n" : Str)] else _) = true then _ else _
              rw [if_pos rfl, in_blank]
              cases hb : isB c with
              | true => exact iteF (k1 hb _ x1)
              | false =>
                refine iteT ⟨_, h2, _, h5, by show 1 ≤ sizeLine; decide, fun b hb1 => ⟨p, b, gsV gs, _, rfl, rfl, ?_, upd_same, ?_, fun q hq => ?_⟩⟩
                · rw [upd_ne (ne_of_none (x1 _ _ hp) hb1)]
                  exact x1 _ _ hp
                · rw [sizeLine_eq, List.length_map]
                  simp only [List.length_cons, List.length_nil]
                  omega
                · have x2 := x1.trans (Ex.new hb1 (o := .lst [V.str ⟨#[c]⟩]))
                  refine k2 hb _ q (x2.trans (Ex.new hq)) (fresh_back x2 hq) ?_
                  rw [upd_same]
                  have e1 : gsV (gs ++ [[c]]) = gsV gs ++ [V.str ⟨#[c]⟩] := List.map_append
                  rw [e1]))))))
      (pss_one (ps_set (i := 3) scC.nd rfl (Or.inl rfl) (pv 6))))))))
    (pss_one (ps_ret (pv 2)))))), ?_⟩
    refine ⟨Nat.zero_le _, fun p hp => ⟨_, _, rfl, ?_⟩⟩
    refine ⟨_, rfl, z, rfl, for_it walk_enumS (fun i σ H' => ∃ (p : Addr) (gs : List (List Nat)) (l pr : Nat) (v4 v5 v6 v7 : Option V), σ = [some (.str z), some (.str LET), some (.ref p), some (.str ⟨#[l]⟩), v4, v5, v6, v7] ∧ Ex H H' ∧ H p = none ∧ H' p = some (.lst (gsV gs)) ∧ gs.length ≤ i ∧ (∀ g ∈ gs, g.length ≤ i) ∧
        (∀ g ∈ gs, ∀ c ∈ g, c < 1114112) ∧ (gs ≠ [] → 0 < i ∧ (tl z)[i - 1]? = some pr) ∧ lawCut gs l pr ((tl z).drop i) = lawCut [] 32 32 (tl z))
      ⟨p, [], 32, 32, none, none, none, none, by rw [s_b]; rfl, Ex.new hp, hp, upd_same, Nat.le_refl _, by simp, by simp, fun h => absurd rfl h, rfl⟩ (fun _ _ _ _ _ => trivial) ?_ ?_⟩
    · rintro i v σ H1 H2 hi ⟨p, gs, l, pr, v4, v5, v6, v7, rfl, hx, np, hp, hgl, hgg, hok, hpr, e⟩ ⟨T1, c, rfl, nT, hc, rfl⟩
      have hiz : i < z.length := hi
      have hc' : (tl z)[i]? = some c := by
        rw [← hc]
        simp
      have hcm : c ∈ tl z := List.mem_of_getElem? hc'
      have hd : (tl z).drop i = c :: (tl z).drop (i + 1) := by
        obtain ⟨hlt, he⟩ := List.getElem?_eq_some_iff.mp hc'
        rw [List.drop_eq_getElem_cons hlt, he]
      rw [hd] at e
      have hx1 : Ex H (upd H1 T1 (.tup [.int (i : Nat), .str ⟨#[c]⟩])) := hx.trans (Ex.new nT)
      have hp1 : (upd H1 T1 (.tup [.int (i : Nat), .str ⟨#[c]⟩])) p = some (.lst (gsV gs)) := by rw [upd_ne (ne_of_none hp nT)]; exact hp
      refine ⟨T1, _, rfl, .inl (.inl upd_same), rfl, _, _, rfl, _, _, rfl, rfl, ?_⟩
      generalize upd H1 T1 (.tup [.int (i : Nat), .str ⟨#[c]⟩]) = H3 at hx1 hp1
      refine ⟨c, rfl, rfl, base0 c, l, rfl, rfl, ?_⟩
      rw [← sortOf_eq c l]
      refine ⟨i, c, l, p, gs, pr, rfl, rfl, hp1, hok, rfl, rfl, rfl, hpr, fun H4 hx4 => ?_⟩
      have hx2 : Ex H H4 := hx1.trans hx4
      have hp2 := hx4 _ _ hp1
      refine ⟨p, gs, sortOf c l, l, rfl, hp2, hok, rfl, rfl, fun H5 hx5 => ?_⟩
      have x3 : Ex H H5 := hx2.trans hx5
      have hp3 := hx5 _ _ hp2
      have hcut : lawCut gs l pr (c :: (tl z).drop (i + 1)) = lawCut (lstep gs l pr c).1 (lstep gs l pr c).2 c ((tl z).drop (i + 1)) := rfl
      rw [hcut] at e
      have newi : ∀ (gs' : List (List Nat)) (g' : List Nat), gs' ++ [g'] ≠ [] → 0 < i + 1 ∧ (tl z)[i + 1 - 1]? = some c := fun _ _ _ => ⟨by omega, hc'⟩
      rcases List.eq_nil_or_concat gs with rfl | ⟨gs', g, rfl⟩
      · have e1 : lstep [] l pr c = if isB c = true then ([], sortOf c l) else ([[c]], sortOf c l) := by
          unfold lstep
          simp
        rw [e1] at e
        rw [show decide (([] : List (List Nat)) ≠ [] ∧ sortOf c l = l ∧ (sortOf c l = 97 ∨ sortOf c l = 49)) = false from decide_eq_false (fun h => h.1 rfl), show decide (([] : List (List Nat)) ≠ [] ∧ dbl pr c = true ∧ l ≠ 50) = false from decide_eq_false (fun h => h.1 rfl)]
        refine iteF ⟨_, rfl, false, rfl, iteF ⟨p, [], c, rfl, hp3, rfl, by simp, fun hb H6 hx6 => ?_, fun hb H6 q hx6 hq hq6 => ?_⟩⟩
        · rw [hb, if_pos rfl] at e
          exact ⟨_, rfl, p, [], sortOf c l, c, _, _, _, _, rfl, x3.trans hx6, np, hx6 _ _ hp3, by simp, by simp, by simp, fun h => absurd rfl h, e⟩
        · rw [hb, if_neg (by decide)] at e
          refine ⟨_, rfl, q, [[c]], sortOf c l, c, _, _, _, _, rfl, x3.trans hx6, fresh_back x3 hq, hq6, by simp, ?_, ?_, fun h => ⟨by omega, hc'⟩, e⟩
          · intro g hg
            rw [List.mem_singleton.mp hg]
            simp
          · intro g hg d hd
            rw [List.mem_singleton.mp hg] at hd
            rw [List.mem_singleton.mp hd]
            exact hcs c hcm
      · rw [show (gs'.concat g) = gs' ++ [g] from List.concat_eq_append] at *
        obtain ⟨hi0, hpr⟩ := hpr (by simp)
        have hgl' : gs'.length + 1 ≤ i := by simpa using hgl
        have hgn : g.length ≤ i := hgg g (by simp)
        have nx : ∀ (so : Nat) (H6 : Hp) (q : Addr) (v6 v7 : Option V), lawCut (glue (gs' ++ [g]) c) so c ((tl z).drop (i + 1)) = lawCut [] 32 32 (tl z) → Ex H5 H6 → H5 q = none → H6 q = some (.lst (gsV (gs' ++ [g ++ [c]]))) →
            ∃ (p : Addr) (gs : List (List Nat)) (l pr : Nat) (v4 v5 v6' v7' : Option V), [some (.str z), some (.str LET), some (.ref q), some (.str ⟨#[so]⟩), some (.int (i : Nat)), some (.str ⟨#[c]⟩), v6, v7] = [some (.str z), some (.str LET), some (.ref p), some (.str ⟨#[l]⟩), v4, v5, v6', v7'] ∧ Ex H H6 ∧ H p = none ∧ H6 p = some (.lst (gsV gs)) ∧ gs.length ≤ i + 1 ∧ (∀ g ∈ gs, g.length ≤ i + 1) ∧
              (∀ g ∈ gs, ∀ c ∈ g, c < 1114112) ∧ (gs ≠ [] → 0 < i + 1 ∧ (tl z)[i + 1 - 1]? = some pr) ∧ lawCut gs l pr ((tl z).drop (i + 1)) = lawCut [] 32 32 (tl z) := fun so H6 q v6 v7 e hx6 hq hq6 => by
          rw [glue_snoc] at e
          refine ⟨q, gs' ++ [g ++ [c]], so, c, _, _, _, _, rfl, x3.trans hx6, fresh_back x3 hq, hq6, ?_, ?_, ?_, fun h => ⟨by omega, hc'⟩, e⟩
          · simp
            omega
          · intro y hy
            rcases List.mem_append.mp hy with h | h
            · have := hgg y (List.mem_append_left _ h)
              omega
            · rw [List.mem_singleton.mp h]
              simp
              omega
          · intro y hy d hd
            rcases List.mem_append.mp hy with h | h
            · exact hok y (List.mem_append_left _ h) d hd
            · rw [List.mem_singleton.mp h] at hd
              rcases List.mem_append.mp hd with h | h
              · exact hok g (by simp) d h
              · rw [List.mem_singleton.mp h]
                exact hcs c hcm
        unfold lstep at e
        by_cases h1 : gs' ++ [g] ≠ [] ∧ sortOf c l = l ∧ (sortOf c l = 97 ∨ sortOf c l = 49)
        · rw [if_pos h1] at e
          rw [decide_eq_true h1]
          refine iteT (tGlue _ _ _ ⟨p, gs', g, c, rfl, hp3, rfl, by omega, by omega, fun H6 q hx6 hq hq6 => ?_⟩)
          exact ⟨_, rfl, nx _ _ _ _ _ e hx6 hq hq6⟩
        · rw [if_neg h1] at e
          rw [decide_eq_false h1]
          refine iteF ?_
          by_cases h2 : gs' ++ [g] ≠ [] ∧ dbl pr c = true ∧ l ≠ 50
          · rw [if_pos h2] at e
            rw [decide_eq_true h2]
            refine ⟨_, rfl, true, rfl, iteT (tGlue _ _ _ ⟨p, gs', g, c, rfl, hp3, rfl, by omega, by omega, fun H6 q hx6 hq hq6 => ?_⟩)⟩
            exact ⟨_, rfl, nx _ _ _ _ _ e hx6 hq hq6⟩
          · rw [if_neg h2] at e
            rw [decide_eq_false h2]
            refine ⟨_, rfl, false, rfl, iteF ⟨p, gs' ++ [g], c, rfl, hp3, rfl, by simp; omega, fun hb H6 hx6 => ?_, fun hb H6 q hx6 hq hq6 => ?_⟩⟩
            · rw [hb, if_pos rfl] at e
              exact ⟨_, rfl, p, gs' ++ [g], sortOf c l, c, _, _, _, _, rfl, x3.trans hx6, np, hx6 _ _ hp3, by omega, fun y hy => Nat.le_succ_of_le (hgg y hy), hok, fun _ => ⟨by omega, hc'⟩, e⟩
            · rw [hb, if_neg (by decide)] at e
              refine ⟨_, rfl, q, gs' ++ [g] ++ [[c]], sortOf c l, c, _, _, _, _, rfl, x3.trans hx6, fresh_back x3 hq, hq6, ?_, ?_, ?_, fun h => ⟨by omega, hc'⟩, e⟩
              · rw [List.length_append]
                simp only [List.length_cons, List.length_nil]
                omega
              · intro y hy
                rcases List.mem_append.mp hy with h | h
                · exact Nat.le_succ_of_le (hgg y h)
                · rw [List.mem_singleton.mp h]
                  simp
              · intro y hy d hd
                rcases List.mem_append.mp hy with h | h
                · exact hok y h d hd
                · rw [List.mem_singleton.mp h] at hd
                  rw [List.mem_singleton.mp hd]
                  exact hcs c hcm
    · rintro σ H' ⟨p, gs, l, pr, v4, v5, v6, v7, rfl, hx, np, hp, hgl, hgg, hok, hpr, e⟩
      refine ⟨_, rfl, k _ p hx np ?_⟩
      have hd : (tl z).drop z.cps.size = [] := List.drop_eq_nil_of_le (Nat.le_refl _)
      rw [hd] at e
      rw [← e]
      exact hp
end
end K01
end of_K01F

section of_K01G
set_option maxRecDepth 100000
set_option maxHeartbeats 4000000
/-! The law's helpers: _law_piece, _law_error. -/
namespace K01
open PySem L2 Evl LamX
abbrev s__law_error : Stmt := top 19
abbrev s__law_piece : Stmt := top 20
def pieces : List Str := ["a", "B_9", "x1", "_", "while", "0", "17", "007", "==", "!=", "<=", "<", "=", "+", "-", "*", "/", "(", ")", "{", "}", ".", ",", " ", "\n", "  "]
def spPiece : Sp := fun vs H Q _ => ∃ b : Addr, vs = [.ref b] ∧ Bx.BoxAt H b ∧ ∀ z H', z ∈ pieces → ExB b H H' → Bx.BoxAt H' b → Q (.str z) H'
section
variable {P : Program} {w : World} {K : PySem.W.Frag} {mg : Str → Option Value} {base : Heap}
theorem scX : FnScope ["box", "some"] ["box"] (defScope s__law_piece) := ⟨rfl, rfl, rfl, by decide +kernel, rfl, by decide +kernel, by decide +kernel⟩
theorem ok_piece (D : DefT K mg "_law_piece" s__law_piece ["box"]) (c__law_pick : DefAt P w K mg base CX0 2 "_law_pick" ["box", "some"] (Bx.spPick K)) : DefAt P w K mg base CX0 3 "_law_piece" ["box"] spPiece := by
  refine D.ok scX (fun vs H Q E h => ?_) (fun f cdv A outer s H vs Q E hr h => ?_)
  · obtain ⟨z, rfl, _⟩ := h
    rfl
  · obtain ⟨b, rfl, hb, k⟩ := h
    refine ⟨_, (pss_cons (ps_set (i := 1) scX.nd rfl (Or.inl rfl) (pe_lst (pa_cons pe_str (pa_cons pe_str (pa_cons pe_str (pa_cons pe_str (pa_cons pe_str (pa_cons pe_str (pa_cons pe_str (pa_cons pe_str (pa_cons pe_str (pa_cons pe_str (pa_cons pe_str (pa_cons pe_str (pa_cons pe_str (pa_cons pe_str (pa_cons pe_str (pa_cons pe_str (pa_cons pe_str (pa_cons pe_str (pa_cons pe_str (pa_cons pe_str (pa_cons pe_str (pa_cons pe_str (pa_cons pe_str pa_nil)))))))))))))))))))))))))
    (pss_one (ps_ret (pe_d c__law_pick hr (by decide) (by rfl) (pa_cons (pv 0) (pa_cons (pe_op op_cat (pv 1) (pe_lst (pa_cons pe_str (pa_cons pe_str (pa_cons pe_str pa_nil))))) pa_nil)))))), ?_⟩
    refine ⟨by show 23 ≤ sizeLine; decide, fun p hp => ⟨_, rfl, _, rfl, by show 3 ≤ sizeLine; decide, fun q hq => ⟨p, q, (pieces.take 23).map V.str, _, rfl, rfl, ?_, upd_same, by rw [sizeLine_eq]; show 23 + 3 ≤ 16777216; decide, fun r hr => ?_⟩⟩⟩
    · rw [upd_ne (ne_of_none upd_same hq)]
      exact upd_same
    · have x1 := ((Ex.new hp).trans (Ex.new hq)).trans (Ex.new hr (o := .lst (pieces.map V.str)))
      have nb : r ≠ b := fun e => by
        rw [e] at hr
        obtain ⟨_, _, _, h1, _⟩ := hb.ex ((Ex.new hp).trans (Ex.new hq))
        rw [h1] at hr
        cases hr
      refine ⟨b, r, _, rfl, hb.ex x1, SqL.of upd_same, nb, by simp, by show 26 ≤ 100000; decide, fun v H' hv e hb' => ?_⟩
      have hv' : v ∈ pieces.map V.str := hv
      obtain ⟨z, hz, rfl⟩ := List.mem_map.mp hv'
      exact k z H' hz ((ExB.of x1).trans e) hb'
theorem scR : FnScope ["call", "e"] ["call"] (defScope s__law_error) := ⟨rfl, rfl, rfl, by decide +kernel, rfl, by decide +kernel, by decide +kernel⟩
/-- what _law_error makes of the call -/
def TErr (C : Addr) : (XK → Hp → VK → Prop) → Hp → VK → Prop := fun tl H Q =>
  tl (fun cls d H' => cls = .ref C ∧ ∃ dd a b, d = some dd ∧ H' dd = some (xAt a b) ∧ ∀ p, H' p = none → Q (.ref p) (upd H' p (.tup [.str "text", .int a, .int b]))) H fun _ H' => ∀ p, H' p = none → Q (.ref p) (upd H' p (.tup [.str "told"]))
theorem err_gives {X : Cx} {g C : Addr} {cdg : Value} {q : Str} (T : XfC X.K C) (n1 : PySem.W.findIn X.K (.ref C) "at" = some none) (n2 : PySem.W.findIn X.K (.ref C) "why" = some none) (hx : PySem.W.exmOne X.K (.ref C) (.ref C) = some true) (hme : X.mg "InvalidText" = some (.ref C)) :
    GivesTo X ["call", "e"] "_law_error" (defScope s__law_error) g cdg (defBody s__law_error) "call" q (TErr C) := by
  intro f c' s H Q tl act hc h
  have hgl : Gl (cxOf CX0 X.prog X.w X.K X.mg X.base ["call", "e"] "_law_error" (defScope s__law_error) g cdg X.A X.stack s H E0).nox "InvalidText" := by rfl
  refine ⟨_, pss_cons (ps_try_as (X := (cxOf CX0 X.prog X.w X.K X.mg X.base ["call", "e"] "_law_error" (defScope s__law_error) g cdg X.A X.stack s H E0).nox) (c := .ref C) (i := 1)
      (tb := fun W D σ H => ∃ Ech : XK, (∀ cls d σ' H', Ech cls d H' → σ'.length = 2 → W cls d σ' H') ∧ σ[0]? = some (some (.ref f)) ∧ H c' = some (CodeO c' q) ∧ tl Ech H fun _ H' => D.nx σ H')
      rfl rfl scR.nd rfl rfl ⟨hgl, by decide, .inl hme⟩ LamX.takes0 (fun W pn xe tk _ => ?_) (fun a oe cls d pn hz hf => pss_one (ps_ret (pe_tup (pa_cons pe_str (pa_cons (pe_xf T n1 hz hf (pv 1)) (pa_cons (pe_xf T n2 hz hf (pv 1)) pa_nil))))))) (pss_one (ps_ret (pe_tup (pa_cons pe_str pa_nil)))), ?_⟩
  · refine ⟨fun pins s' σ H' D I h' => ?_⟩
    obtain ⟨Ech, hW, h1, h2, h3⟩ := h'
    exact (pss_one (ps_expr (act _ pn xe Ech _ _ (Takes.len tk) hW))).run pins s' σ H' D I ⟨h1, h2, h3⟩
  · refine ⟨fun cls d H' => cls = .ref C ∧ ∃ dd a b, d = some dd ∧ H' dd = some (xAt a b) ∧ ∀ p, H' p = none → Q (.ref p) (upd H' p (.tup [.str "text", .int a, .int b])), fun cls d σ' H' ⟨hcls, dd, a, b, hd, hdd, k⟩ hl => ⟨true, by rw [hcls]; exact hx, fun _ p hp => ?_, fun z => by cases z⟩, rfl, hc, ?_⟩
    · have h1 : (σ'.set 1 (some (V.ref p)))[1]? = some (some (V.ref p)) := by
        rw [List.getElem?_set_self (by omega)]
      exact ⟨_, h1, rfl, hcls, dd, _, _, hd, hdd, rfl, _, h1, rfl, hcls, dd, _, _, hd, hdd, rfl, by show 3 ≤ sizeLine; decide, fun p hp => k p hp⟩
    · have e : (fun (_ : V) (H' : Hp) => ∀ p, H' p = none → Q (.ref p) (upd H' p (.tup [.str "told"]))) = fun (_ : V) (H' : Hp) => (tRet (tTup (tCons (tC (V.str "told")) tNil)) { nx := fun _ H' => Q V.non H', rt := Q }) (L2.start ["call", "e"] [V.ref f]) H' := by
        funext v H'
        exact propext ⟨fun h => ⟨by show 1 ≤ sizeLine; decide, h⟩, fun h => h.2⟩
      exact e ▸ h
end
end K01
end of_K01G

section of_K01H
set_option maxRecDepth 100000
set_option maxHeartbeats 4000000
/-! What the law's own body needs: what groups says of a value, its texts. -/
namespace K01
open PySem L2 Evl LamX
abbrev s_law : Stmt := top 21
/-- what _law_error tells of groups(v) -/
def says (K : PySem.W.Frag) (v : V) (H : Hp) (out : Option (Int × Int)) : Prop :=
  (∃ z : Str, v = .str z ∧ z.length ≤ 20000 ∧ ((∃ gs, cutP [] (tl z) = .ok gs ∧ out = none) ∨ ∃ a b : Nat, cutP [] (tl z) = .error (a, b) ∧ out = some ((a : Int), (b : Int)))) ∨
  (∃ z : Str, v = .str z ∧ 20000 < z.length ∧ z.length ≤ 100000 ∧ out = some (-1, 0)) ∨
  (∃ t, TyX K H v t ∧ PySem.W.kitOne K t (.type "str") = some false ∧ out = some (-1, 0))
def resV : Option (Int × Int) → List V
  | none => [.str "told"]
  | some (a, b) => [.str "text", .int a, .int b]
def resD : Option (Int × Int) → List PyData
  | none => [.str "told"]
  | some (a, b) => [.str "text", .int a, .int b]
theorem dp_res {K : PySem.W.Frag} {H : Hp} : ∀ out, DpAll K H (resV out) (resD out)
  | none => .cons (.str _) .nil
  | some (a, b) => .cons (.str _) (.cons (.int a) (.cons (.int b) .nil))
theorem shaped_res : ∀ out, SeqAt.shaped (.tuple (resD out)) = true
  | none => by decide +kernel
  | some (a, b) => by
    unfold SeqAt.shaped
    refine Bool.and_eq_true_iff.mpr ⟨?_, decide_eq_true ?_⟩
    · simp only [resD, PyData.canLay0, PyData.canLayAll0, Bool.and_self, Bool.and_true]
      decide +kernel
    · simp only [resD, PyData.depth, PyData.depthAll]
      decide
theorem eqv_res : ∀ out, PyData.eqv (.tuple (resD out)) (.tuple (resD out)) = true
  | none => by decide +kernel
  | some (a, b) => by
    simp [resD, PyData.eqv, PyData.eqvAll]
theorem err_leaf {K : PySem.W.Frag} {C : Addr} {v : V} {H : Hp} {out : Option (Int × Int)} {Q : VK} (hs : says K v H out) (k : ∀ H' p, Ex H H' → H' p = some (.tup (resV out)) → Q (.ref p) H') :
    spGroups K C [v] H (fun _ H' => ∀ p, H' p = none → Q (.ref p) (upd H' p (.tup [.str "told"]))) (fun cls d H' => cls = .ref C ∧ ∃ dd a b, d = some dd ∧ H' dd = some (xAt a b) ∧ ∀ p, H' p = none → Q (.ref p) (upd H' p (.tup [.str "text", .int a, .int b]))) := by
  refine ⟨v, rfl, ?_⟩
  rcases hs with ⟨z, rfl, hz, h⟩ | ⟨z, rfl, hz, hz2, rfl⟩ | ⟨t, ht, hk, rfl⟩
  · refine .inl ⟨z, rfl, hz, fun gs hg H' p hx _ _ q hq => ?_, fun a b hb H' d hx _ hd => ⟨rfl, d, _, _, rfl, hd, fun p hp => ?_⟩⟩
    · rcases h with ⟨gs', _, rfl⟩ | ⟨a, b, h, _⟩
      · exact k _ q (hx.trans (Ex.new hq)) upd_same
      · rw [hg] at h
        cases h
    · rcases h with ⟨gs', h, _⟩ | ⟨a', b', h, rfl⟩
      · rw [hb] at h
        cases h
      · rw [hb] at h
        cases h
        exact k _ p (hx.trans (Ex.new hp)) upd_same
  · exact .inr (.inl ⟨z, rfl, hz, hz2, fun H' d hx _ hd => ⟨rfl, d, _, _, rfl, hd, fun p hp => k _ p (hx.trans (Ex.new hp)) upd_same⟩⟩)
  · exact .inr (.inr ⟨t, ht, hk, fun H' d hx _ hd => ⟨rfl, d, _, _, rfl, hd, fun p hp => k _ p (hx.trans (Ex.new hp)) upd_same⟩⟩)
/-- what the walk of _law_error asks of the class -/
structure TxtE (K : PySem.W.Frag) (mg : Str → Option Value) (C : Addr) : Prop where
  xf : XfC K C
  n1 : PySem.W.findIn K (.ref C) "at" = some none
  n2 : PySem.W.findIn K (.ref C) "why" = some none
  ex : PySem.W.exmOne K (.ref C) (.ref C) = some true
  gC : mg "InvalidText" = some (.ref C)
theorem pe_err {X : Cx} {C c Pt : Addr} {k : Nat} {ta : TA} {params : Arguments} {body : Expr} {scope : Scope} {p lpos pos : Pos} (De : DefT X.K X.mg "_law_error" s__law_error ["call"]) (Te : TxtE X.K X.mg C) (TB : TabB X.base X.mg c Pt) (hg : Gl X "_law_error") (hr : Room (k + 2) X.A)
    (L : LamS X.env.scope scope) (hbody : ∀ (A : Around) (outer : List Env) (s : Shared) (H : Hp) (E : XK) (f c' : Addr), Room k (A.deeper (lamEnv X scope s.heap.objs.size f c')) → PE (lamCx X A outer s H E scope f c') body (tCallS (spGroups X.K C) (fun _ => E) ta))
    (hcode : X.env.code = .ref c := by rfl) (hdef : defaultsOf params X.env = ([], []) := by rfl)
    (hbind : ∀ (q : Str) (cl : List (Str × Addr)) (pm cv ctv : Value), bindArgs (PySem.W.kla_fn "<lambda>" q params body scope cl pm cv ctv) ⟨[], []⟩ = pure [] := by intros; rfl) :
    PE X (.Call (.Name "_law_error" p) [.Lambda params body scope lpos] [] pos) (tLam [(Pt, X.env.qual ++ "<lambda>")] (TErr C) fun E => tCallS (spGroups X.K C) (fun _ => E) ta) :=
  pe_lamD De scR (fun g cdg => err_gives Te.xf Te.n1 Te.n2 Te.ex Te.gC) TB hg hr L hbody rfl (Or.inl rfl) hcode hdef hbind
instance decGood : ∀ l : List Nat, Decidable (good l)
  | [] => isTrue trivial
  | c :: r => by
    have := decGood r
    exact inferInstanceAs (Decidable ((isL c = true ∨ isF c = true ∨ isS c = true ∨ isB c = true ∨ (c = 33 ∧ r.head? = some 61)) ∧ good r))
theorem pieces_good : ∀ z ∈ pieces, good (tl z) ∧ z.length ≤ 5 := by decide +kernel
def seps : List Str := ["", " "]
theorem seps_good : ∀ z ∈ seps, good (tl z) ∧ z.length ≤ 1 := by decide +kernel
theorem good_lt : ∀ {l : List Nat}, good l → ∀ c ∈ l, c < 1114112
  | [], _, _, h => by simp at h
  | d :: r, h, c, hc => by
    rcases List.mem_cons.mp hc with rfl | hc
    · have L : ∀ c ∈ letS, c < 1114112 := by decide
      have F : ∀ c ∈ figS, c < 1114112 := by decide
      have S : ∀ c ∈ sinS, c < 1114112 := by decide
      rcases h.1 with h | h | h | h | h
      · exact mem_cases L h
      · exact mem_cases F h
      · exact mem_cases S h
      · rcases B_cases h with rfl | rfl <;> decide
      · omega
    · exact good_lt h.2 c hc
def wrongs : List Str := ["!", "&", "#", "[", ";", "'", "?", ":", "\t", "!!"]
theorem wrongs_len : ∀ z ∈ wrongs, z.length ≤ 2 := by decide +kernel
theorem wrongs_no : ∀ z ∈ wrongs, ∃ c r, tl z = c :: r ∧ isL c = false ∧ isF c = false ∧ isS c = false ∧ isB c = false ∧ (c ≠ 61 ∧ c ≠ 60) ∧ (r = [] ∨ r = [33]) := by
  intro z hz
  simp only [wrongs, List.mem_cons, List.not_mem_nil, or_false] at hz
  rcases hz with rfl | rfl | rfl | rfl | rfl | rfl | rfl | rfl | rfl | rfl
  · exact ⟨33, [], by decide +kernel⟩
  · exact ⟨38, [], by decide +kernel⟩
  · exact ⟨35, [], by decide +kernel⟩
  · exact ⟨91, [], by decide +kernel⟩
  · exact ⟨59, [], by decide +kernel⟩
  · exact ⟨39, [], by decide +kernel⟩
  · exact ⟨63, [], by decide +kernel⟩
  · exact ⟨58, [], by decide +kernel⟩
  · exact ⟨9, [], by decide +kernel⟩
  · exact ⟨33, [33], by decide +kernel⟩
theorem wrong_gLen {z : Str} (hz : z ∈ wrongs) (cs : List Nat) : gLen (tl z ++ 32 :: cs) = 0 ∧ ∃ c r, tl z ++ 32 :: cs = c :: r ∧ isB c = false := by
  obtain ⟨c, r, e, h1, h2, h3, h4, ⟨h5, h6⟩, h7⟩ := wrongs_no z hz
  rw [e, List.cons_append]
  refine ⟨?_, c, _, rfl, h4⟩
  rw [gLen_cons, h1, h2, h3]
  have hd : (r ++ 32 :: cs).head?.any (dbl c) = false := by
    rcases h7 with rfl | rfl
    · show dbl c 32 = false
      unfold dbl
      rfl
    · show dbl c 33 = false
      unfold dbl
      rfl
  rw [hd]
  rfl
end K01
end of_K01H

section of_K01I
set_option maxRecDepth 100000
set_option maxHeartbeats 8000000
/-! The law. -/
namespace K01
open PySem L2 Evl LamX
abbrev qL : Str := (("law" : Str) ++ ".<locals>.") ++ "<lambda>"
def spLaw (K : PySem.W.Frag) (Pt : Addr) : Sp := fun vs H Q _ => ∃ (a : Addr) (ns : List Int), vs = [.ref a] ∧ SqL K H a (ns.map V.int) ∧ ns.length ≤ 63 ∧ H Pt = some (.tbl #[]) ∧ ∀ H', Q (.bl true) H'
theorem Tabs.exB {T : List (Addr × Str)} {b : Addr} {H H' : Hp} (B : Bx.BoxAt H b) (e : ExB b H H') (t : Tabs T H) : Tabs T H' := fun p hp => by
  obtain ⟨r, ns, z, hb, _⟩ := B
  obtain ⟨ps, h1, h2, h3⟩ := t p hp
  have n1 : p.1 ≠ b := fun q => by rw [q, hb] at h1; cases h1
  refine ⟨ps, e _ _ h1 n1, h2, fun pos cv hc => ?_⟩
  obtain ⟨c, hc1, hc2⟩ := h3 pos cv hc
  have n2 : c ≠ b := fun q => by
    rw [q, hb] at hc2
    unfold CodeO at hc2
    cases hc2
  exact ⟨c, hc1, e _ _ hc2 n2⟩
theorem BoxAt.exN {b : Addr} {H H' : Hp} (e : ExtN H H') (B : Bx.BoxAt H b) : Bx.BoxAt H' b := by
  obtain ⟨r, ns, z, h1, h2, h3⟩ := B
  exact ⟨r, ns, z, e _ _ h1 (fun _ => by simp), e _ _ h2 (fun _ => by simp), h3⟩
theorem lawCut_len : ∀ (cs : List Nat) (f : List (List Nat)) (l p : Nat), (lawCut f l p cs).flatten.length ≤ f.flatten.length + cs.length
  | [], f, l, p => Nat.le_refl _
  | c :: r, f, l, p => by
    have h := lawCut_len r (lstep f l p c).1 (lstep f l p c).2 c
    have g : (glue f c).flatten.length ≤ f.flatten.length + 1 := by
      unfold glue
      rcases List.eq_nil_or_concat f with rfl | ⟨f', g, rfl⟩
      · simp
      · rw [List.concat_eq_append, List.dropLast_concat, List.getLast?_concat]
        simp
        omega
    have k : (lstep f l p c).1.flatten.length ≤ f.flatten.length + 1 := by
      unfold lstep
      split
      · exact g
      split
      · exact g
      split
      · exact Nat.le_succ _
      · simp
    show (lawCut (lstep f l p c).1 (lstep f l p c).2 c r).flatten.length ≤ _
    rw [List.length_cons]
    omega
theorem joinB_len : ∀ gs : List (List Nat), (joinB gs).length ≤ gs.flatten.length + gs.length
  | [] => Nat.le_refl _
  | [p] => by simp [joinB]
  | p :: q :: r => by
    have h := joinB_len (q :: r)
    simp only [joinB, List.length_append, List.length_cons, List.flatten_cons] at h ⊢
    omega
theorem joinB_eq : ∀ gs : List (List Nat), TL.joinL [32] gs = joinB gs
  | [] => rfl
  | [p] => rfl
  | p :: q :: r => by
    show p ++ ([32] ++ TL.joinL [32] (q :: r)) = p ++ (32 :: joinB (q :: r))
    rw [joinB_eq (q :: r)]
    rfl
theorem tl_joinB (gs : List (List Nat)) : tl (Txt.join " " (gs.map S)) = joinB gs := by
  rw [TL.join_eq]
  have e := TL.tl_join " " (gs.map S)
  have e2 : (gs.map S).map tl = gs := by
    rw [List.map_map]
    exact List.map_id gs
  have e3 : tl (" " : Str) = [32] := by decide +kernel
  show tl (Str.join " " (gs.map S)) = _
  refine e.trans ?_
  rw [show TL.tl (" " : Str) = [32] from e3]
  rw [show (gs.map S).map TL.tl = gs from e2, joinB_eq]
theorem tl_app (a b : Str) : tl (a ++ b) = tl a ++ tl b := by
  show (a.cps ++ b.cps).toList = _
  simp
theorem len_app (a b : Str) : (a ++ b).length = a.length + b.length := by
  show (a.cps ++ b.cps).size = _
  simp
  rfl
theorem gsV_eq (gs : List (List Nat)) : gsV gs = (gs.map S).map V.str := by simp [gsV]
theorem gs_sum (gs : List (List Nat)) : ((gs.map S).map (·.length)).sum = gs.flatten.length := by
  rw [List.length_flatten, List.map_map]
  rfl
theorem sp_tl : tl (" " : Str) = [32] := by decide +kernel
theorem nl_tl : tl ("\n" : Str) = [10] := by decide +kernel
theorem ofL {H H' : Hp} {p : Addr} {xs : List V} (e : ExtN H H') (h : H p = some (.lst xs)) : H' p = some (.lst xs) := e _ _ h fun _ => by simp
/-- _law_error(lambda: groups(v)), v by the slots -/
def tErr (K : PySem.W.Frag) (Pt : Addr) (g : St → V → Prop) : TE := fun σ H Q => Tabs [(Pt, qL)] H ∧ ∀ H1, ExtN H H1 → Tabs [(Pt, qL)] H1 → ∃ v out, g σ v ∧ says K v H1 out ∧ ∀ H' p, Ex H1 H' → H' p = some (.tup (resV out)) → Q (.ref p) H'
def gText : St → V → Prop := fun σ v => ∃ z x : Str, σ[3]? = some (some (.str z)) ∧ σ[6]? = some (some (.str x)) ∧ z.length ≤ 240 ∧ x.length ≤ 2 ∧ v = .str (z ++ " " ++ x ++ " " ++ z)
def gVal : St → V → Prop := fun σ v => σ[7]? = some (some v)
abbrev repS (z : Str) (m : Nat) : Str := ⟨((List.replicate m z.cps.toList).flatten).toArray⟩
theorem rep_len (z : Str) (m : Nat) : (repS z m).length = z.length * m := by
  show (((List.replicate m z.cps.toList).flatten).toArray).size = _
  rw [List.size_toArray, List.length_flatten, List.map_replicate, List.sum_replicate_nat, Nat.mul_comm]
  rfl
theorem rep_tl (z : Str) (m : Nat) : tl (repS z m) = (List.replicate m (tl z)).flatten := by
  show (((List.replicate m z.cps.toList).flatten).toArray).toList = _
  simp
theorem as_tl : tl ("a " : Str) = [97, 32] := by decide +kernel
theorem dot_tl : tl ("." : Str) = [46] := by decide +kernel
theorem plus_tl : tl ("+" : Str) = [43] := by decide +kernel
theorem sa_tl : tl (" a" : Str) = [32, 97] := by decide +kernel
theorem q_tl : tl ("?" : Str) = [63] := by decide +kernel
theorem dbl46 (d : Nat) : dbl 46 d = false := dbl_not (by decide) (by decide) (by decide)
theorem dbl43 (d : Nat) : dbl 43 d = false := dbl_not (by decide) (by decide) (by decide)
theorem says1 {K : PySem.W.Frag} {H : Hp} {m : Nat} (hm : m ≤ 5000) : says K (.str (repS "a " m)) H (if 4000 < m then some (4000, 2) else none) := by
  refine .inl ⟨_, rfl, by rw [rep_len]; show 2 * m ≤ _; omega, ?_⟩
  rw [rep_tl, as_tl]
  by_cases h : 4000 < m
  · rw [if_pos h]
    exact .inr ⟨4000, 2, rep_a_more m [] (Nat.zero_le _) (by simpa using h), rfl⟩
  · rw [if_neg h]
    exact .inl ⟨_, rep_a m [] (by simp; omega), rfl⟩
theorem says2 {K : PySem.W.Frag} {H : Hp} {m : Nat} (hm : m ≤ 5000) : says K (.str (repS "." m ++ " a")) H (if m < 4000 then none else some (4000, 2)) := by
  refine .inl ⟨_, rfl, by rw [len_app, rep_len]; show 1 * m + 2 ≤ _; omega, ?_⟩
  rw [tl_app, rep_tl, dot_tl, sa_tl, List.flatten_replicate_singleton]
  by_cases h : m ≤ 4000
  · have z := rep_s (c := 46) (by decide +kernel) dbl46 [32, 97] m [] (by simpa using h)
    rw [z, List.nil_append, cutP_blank _ (by decide), cutP_cons _ (by decide), show gLen [97] = 1 by decide +kernel, if_neg (by decide), List.length_replicate]
    by_cases h2 : m = 4000
    · rw [if_pos h2, if_neg (by omega)]
      exact .inr ⟨4000, 2, rfl, rfl⟩
    · rw [if_neg h2, if_pos (by omega)]
      exact .inl ⟨_, by rw [List.drop_of_length_le (by decide), cutP_nil], rfl⟩
  · rw [if_neg (by omega)]
    exact .inr ⟨4000, 2, rep_s_more (c := 46) (by decide +kernel) dbl46 _ m [] (Nat.zero_le _) (by simp; omega), rfl⟩
theorem says3 {K : PySem.W.Frag} {H : Hp} {m : Nat} (hm : m ≤ 5000) : says K (.str (repS "+" m ++ "?")) H (if m ≤ 4000 then some ((m : Int), 1) else some (4000, 2)) := by
  refine .inl ⟨_, rfl, by rw [len_app, rep_len]; show 1 * m + 1 ≤ _; omega, ?_⟩
  rw [tl_app, rep_tl, plus_tl, q_tl, List.flatten_replicate_singleton]
  by_cases h : m ≤ 4000
  · have z := rep_s (c := 43) (by decide +kernel) dbl43 [63] m [] (by simpa using h)
    rw [z, List.nil_append, cutP_cons _ (by decide), show gLen [63] = 0 by decide +kernel, if_pos rfl, List.length_replicate, if_pos h]
    exact .inr ⟨m, 1, rfl, rfl⟩
  · rw [if_neg h]
    exact .inr ⟨4000, 2, rep_s_more (c := 43) (by decide +kernel) dbl43 _ m [] (Nat.zero_le _) (by simp; omega), rfl⟩
theorem g1 : cutP [] (tl ("a<=b==-1" : Str)) = .ok [[97],[60,61],[98],[61,61],[45],[49]] := by
  rw [show tl ("a<=b==-1" : Str) = [97,60,61,98,61,61,45,49] by decide +kernel]
  simp (config := {decide := true}) [cutP, gLen, isB, isL, isF, isS, isW, letS, figS, sinS, dbl]
theorem g2 : cutP [] (tl ("1a a1 ===" : Str)) = .ok [[49],[97],[97,49],[61,61],[61]] := by
  rw [show tl ("1a a1 ===" : Str) = [49,97,32,97,49,32,61,61,61] by decide +kernel]
  simp (config := {decide := true}) [cutP, gLen, isB, isL, isF, isS, isW, letS, figS, sinS, dbl]
def gRep (a : Str) (t : Option Str) : St → V → Prop := fun σ v => ∃ m : Nat, σ[8]? = some (some (.int (m : Int))) ∧ 2 ≤ m ∧ m ≤ 5000 ∧ v = .str (match t with | none => repS a m | some y => repS a m ++ y)
section
variable {P : Program} {w : World} {K : PySem.W.Frag} {mg : Str → Option Value} {base : Heap}
theorem scL : FnScope ["script", "box", "turn", "text", "ask", "cut", "wrong", "value", "many", "due"] ["script"] (defScope s_law) := ⟨rfl, rfl, rfl, by decide +kernel, rfl, by decide +kernel, by decide +kernel⟩
theorem ok_law {C cd Pt fL : Addr} {fdL : FuncData} (D : DefF K "law" s_law cd fL fdL) (T : Rx.Bts mg) (TB : TabB base mg cd Pt) (Te : TxtE K mg C) (De : DefT K mg "_law_error" s__law_error ["call"]) (c_groups : DefAt P w K mg base (L2.CX P w) 4 "groups" ["text"] (spGroups K C))
    (c__law_box : DefAt P w K mg base CX0 1 "_law_box" ["script"] (Bx.spBox K)) (c__law_take : DefAt P w K mg base CX0 1 "_law_take" ["box", "many"] Bx.spTake) (c__law_pick : DefAt P w K mg base CX0 2 "_law_pick" ["box", "some"] (Bx.spPick K)) (c__law_piece : DefAt P w K mg base CX0 3 "_law_piece" ["box"] spPiece)
    (c__law_cut : DefAt P w K mg base CX0 1 "_law_cut" ["text"] spCut) (c__law_is : DefAt P w K mg base CX0 2 "_law_is" ["told", "due"] (spIs K 1)) : FnOk P w K mg base CX0 7 fL fdL ["script"] (spLaw K Pt) := by
  refine D.ok scL (fun vs H Q E h => ?_) (fun A outer s H vs Q E hr h => ?_)
  · obtain ⟨a, ns, rfl, _⟩ := h
    rfl
  · obtain ⟨a, ns, rfl, hS, hl, hPt, k⟩ := h
    refine ⟨_, (pss_cons (ps_set (i := 1) scL.nd rfl (Or.inl rfl) (pe_d c__law_box hr (by decide) (by rfl) (pa_cons (pv 0) pa_nil)))
    (pss_cons (ps_for PassesOwn.never rfl (pi_range1 (by rfl) T.range_ (pa_cons pe_int pa_nil)) (pg_name (i := 2) scL.nd rfl (Or.inl rfl))
      (pss_cons (ps_set (i := 3) scL.nd rfl (Or.inr rfl) pe_str)
      (pss_cons (ps_for PassesOwn.never rfl (pi_range1 (by rfl) T.range_ (pa_cons (pe_d c__law_take hr (by decide) (by rfl) (pa_cons (pv 1) (pa_cons pe_int pa_nil))) pa_nil)) (pg_name (i := 4) scL.nd rfl (Or.inl rfl))
        (pss_one (ps_set (i := 3) scL.nd rfl (Or.inr rfl) (pe_op op_add_str (pe_op op_add_str (pv 3) (pe_d c__law_piece hr (by decide) (by rfl) (pa_cons (pv 1) pa_nil))) (pe_d c__law_pick hr (by decide) (by rfl) (pa_cons (pv 1) (pa_cons (pe_lst (pa_cons pe_str (pa_cons pe_str pa_nil))) pa_nil)))))))
      (pss_cons (ps_set (i := 5) scL.nd rfl (Or.inl rfl) (pe_d c__law_cut hr (by decide) (by rfl) (pa_cons (pv 3) pa_nil)))
      (pss_cons (ps_if (PW.pt (pw_or (pt_not (pt_val (pe_d c__law_is hr (by decide) (by rfl) (pa_cons (pe_dS (E := fun _ => E0) c_groups hr (by decide) (by rfl) passNo (pa_cons (pv 3) pa_nil)) (pa_cons (pe_tupleOf (by rfl) T.tuple_ (pv 5)) pa_nil))))) (pw_or1 (pt_not (pt_val (pe_d c__law_is hr (by decide) (by rfl) (pa_cons (pe_dS (E := fun _ => E0) c_groups hr (by decide) (by rfl) passNo (pa_cons (pe_join pe_str (pv 5)) pa_nil)) (pa_cons (pe_tupleOf (by rfl) T.tuple_ (pv 5)) pa_nil))))))))
        (pss_one (ps_ret pe_bl))
        pss_nil)
      (pss_cons (ps_set (i := 6) scL.nd rfl (Or.inr rfl) (pe_d c__law_pick hr (by decide) (by rfl) (pa_cons (pv 1) (pa_cons (pe_lst (pa_cons pe_str (pa_cons pe_str (pa_cons pe_str (pa_cons pe_str (pa_cons pe_str (pa_cons pe_str (pa_cons pe_str (pa_cons pe_str (pa_cons pe_str (pa_cons pe_str pa_nil))))))))))) pa_nil))))
      (pss_cons (ps_if (pt_cmpR (op_neD hr.units) (PE.imp (t' := tErr K Pt gText) (pe_err De Te TB (by rfl) hr (lamS_by (sc := defScope s_law) (by decide +kernel)) (fun A2 o2 s2 H2 E2 f2 c2 hr2 => (pe_dS c_groups hr2 (by decide) (by rfl) (fun σ => passAt (takes_of rfl rfl rfl rfl) σ) (pa_cons (pe_op op_add_str (pe_op op_add_str (pe_op op_add_str (pe_op op_add_str (pv 3) pe_str) (pv 6)) pe_str) (pv 3)) pa_nil)))) (fun σ H Q h => by
          obtain ⟨hT, h⟩ := h
          refine ⟨hT, fun H1 eN T1 => ?_⟩
          obtain ⟨v, out, ⟨z, x, h3, h6, hz, hx, rfl⟩, hs, k⟩ := h H1 eN T1
          refine ⟨_, h3, _, _, rfl, rfl, by rw [sizeLine_eq]; show z.length + 1 ≤ _; omega, _, h6, _, _, rfl, rfl, by rw [sizeLine_eq, len_app]; show z.length + 1 + x.length ≤ _; omega, _, _, rfl, rfl, by rw [sizeLine_eq, len_app, len_app]; show z.length + 1 + x.length + 1 ≤ _; omega, _, h3, _, _, rfl, rfl, by rw [sizeLine_eq, len_app, len_app, len_app]; show z.length + 1 + x.length + 1 + z.length ≤ _; omega, ?_⟩
          have z := err_leaf (C := C) hs k
          exact z)) (pe_tup (pa_cons pe_str (pa_cons (pe_callB call_len_seq (by rfl) T.len_ Rx.b_len (pa_cons (pv 5) pa_nil)) (pa_cons pe_int pa_nil)))) (nomark _))
        (pss_one (ps_ret pe_bl))
        pss_nil)
      (pss_one (ps_if (pt_not (pt_val (pe_d c__law_is hr (by decide) (by rfl) (pa_cons (pe_dS (E := fun _ => E0) c_groups hr (by decide) (by rfl) passNo (pa_cons (pe_op op_add_str (pe_op op_add_str (pv 3) pe_str) (pv 3)) pa_nil)) (pa_cons (pe_tupleOf (by rfl) T.tuple_ (pe_op op_cat (pv 5) (pv 5))) pa_nil)))))
        (pss_one (ps_ret pe_bl))
        pss_nil)))))))))
    (pss_cons (ps_for PassesOwn.never rfl (pi_list (pe_lst (pa_cons pe_non (pa_cons pe_int (pa_cons (pe_tup pa_nil) (pa_cons (pe_lst (pa_cons pe_str pa_nil)) (pa_cons pe_bl (pa_cons (pe_op op_repS pe_str pe_int) pa_nil)))))))) (pg_name (i := 7) scL.nd rfl (Or.inr rfl))
      (pss_one (ps_if (pt_cmpR (op_neD hr.units) (PE.imp (t' := tErr K Pt gVal) (pe_err De Te TB (by rfl) hr (lamS_by (sc := defScope s_law) (by decide +kernel)) (fun A2 o2 s2 H2 E2 f2 c2 hr2 => (pe_dS c_groups hr2 (by decide) (by rfl) (fun σ => passAt (takes_of rfl rfl rfl rfl) σ) (pa_cons (pv 7) pa_nil)))) (fun σ H Q h => by
          obtain ⟨hT, h⟩ := h
          refine ⟨hT, fun H1 eN T1 => ?_⟩
          obtain ⟨v, out, h7, hs, k⟩ := h H1 eN T1
          refine ⟨_, h7, ?_⟩
          have z := err_leaf (C := C) hs k
          exact z)) (pe_tup (pa_cons pe_str (pa_cons (pe_un un_neg pe_int) (pa_cons pe_int pa_nil)))) (nomark _))
        (pss_one (ps_ret pe_bl))
        pss_nil)))
    (pss_cons (PS.imp (t' := fun D σ H => ∃ b : Addr, σ[1]? = some (some (.ref b)) ∧ Bx.BoxAt H b ∧ ∀ (m : Nat) H', 3998 ≤ m → m ≤ 5000 → ExB b H H' → Bx.BoxAt H' b → D.nx (σ.set 8 (some (.int (m : Int)))) H') (ps_set (i := 8) scL.nd rfl (Or.inr rfl) (pe_op op_add pe_int (pe_d c__law_take hr (by decide) (by rfl) (pa_cons (pv 1) (pa_cons pe_int pa_nil))))) (fun D σ H ⟨b, h1, hb, k⟩ => by
      refine ⟨_, h1, b, 5, rfl, hb, by decide, by decide, fun r H6 e6 hb6 hr0 hr1 => ⟨_, _, rfl, rfl, ?_⟩⟩
      obtain ⟨m, hm⟩ : ∃ m : Nat, 3998 + r = (m : Int) := ⟨(3998 + r).toNat, by omega⟩
      have z := k m H6 (by omega) (by omega) e6 hb6
      rw [← hm] at z
      exact z))
    (pss_cons (PS.imp (t' := fun D σ H => ∃ m : Nat, σ[8]? = some (some (.int (m : Int))) ∧ ∀ H' q, Ex H H' → H' q = some (.tup (resV (if 4000 < m then some (4000, 2) else none))) → D.nx (σ.set 9 (some (.ref q))) H') (ps_set (i := 9) scL.nd rfl (Or.inl rfl) (pe_ifExp (pt_cmpR op_gt (pv 8) pe_int (nomark _)) (pe_tup (pa_cons pe_str (pa_cons pe_int (pa_cons pe_int pa_nil)))) (pe_tup (pa_cons pe_str pa_nil)))) (fun D σ H ⟨m, h8, k⟩ => by
      refine ⟨_, h8, _, _, rfl, rfl, _, rfl, ?_⟩
      by_cases hm : 4000 < m
      · rw [decide_eq_true (by omega : (4000 : Int) < (m : Int))]
        refine iteT ⟨by show 3 ≤ sizeLine; decide, fun q hq => k _ q (Ex.new hq) ?_⟩
        rw [upd_same, if_pos hm]
        rfl
      · rw [decide_eq_false (by omega : ¬ (4000 : Int) < (m : Int))]
        refine iteF ⟨by show 1 ≤ sizeLine; decide, fun q hq => k _ q (Ex.new hq) ?_⟩
        rw [upd_same, if_neg hm]
        rfl))
    (pss_cons (ps_if (pt_cmpR (op_neD hr.units) (PE.imp (t' := tErr K Pt (gRep "a " none)) (pe_err De Te TB (by rfl) hr (lamS_by (sc := defScope s_law) (by decide +kernel)) (fun A2 o2 s2 H2 E2 f2 c2 hr2 => (pe_dS c_groups hr2 (by decide) (by rfl) (fun σ => passAt (takes_of rfl rfl rfl rfl) σ) (pa_cons (pe_op op_repS pe_str (pv 8)) pa_nil)))) (fun σ H Q h => by
          obtain ⟨hT, h⟩ := h
          refine ⟨hT, fun H1 eN T1 => ?_⟩
          obtain ⟨v, out, ⟨m, h8, hm, hm2, rfl⟩, hs, k⟩ := h H1 eN T1
          refine ⟨_, h8, _, m, rfl, rfl, hm, by decide, by omega, by decide, (show 2 * m ≤ 1000000 by omega), ?_⟩
          have z := err_leaf (C := C) hs k
          exact z)) (pv 9) (nomark _))
      (pss_one (ps_ret pe_bl))
      pss_nil)
    (pss_cons (ps_if (pt_cmpR (op_neD hr.units) (PE.imp (t' := tErr K Pt (gRep "." (some " a"))) (pe_err De Te TB (by rfl) hr (lamS_by (sc := defScope s_law) (by decide +kernel)) (fun A2 o2 s2 H2 E2 f2 c2 hr2 => (pe_dS c_groups hr2 (by decide) (by rfl) (fun σ => passAt (takes_of rfl rfl rfl rfl) σ) (pa_cons (pe_op op_add_str (pe_op op_repS pe_str (pv 8)) pe_str) pa_nil)))) (fun σ H Q h => by
          obtain ⟨hT, h⟩ := h
          refine ⟨hT, fun H1 eN T1 => ?_⟩
          obtain ⟨v, out, ⟨m, h8, hm, hm2, rfl⟩, hs, k⟩ := h H1 eN T1
          refine ⟨_, h8, _, m, rfl, rfl, hm, by decide, by omega, by decide, (show 1 * m ≤ 1000000 by omega), _, _, rfl, rfl, by rw [sizeLine_eq, rep_len]; show 1 * m + 2 ≤ _; omega, ?_⟩
          have z := err_leaf (C := C) hs k
          exact z)) (PE.imp (t' := fun σ H Q => ∃ m : Nat, σ[8]? = some (some (.int (m : Int))) ∧ ∀ H' q, Ex H H' → H' q = some (.tup (resV (if m < 4000 then none else some (4000, 2)))) → Q (.ref q) H') (pe_ifExp (pt_cmpR op_lt (pv 8) pe_int (nomark _)) (pe_tup (pa_cons pe_str pa_nil)) (pe_tup (pa_cons pe_str (pa_cons pe_int (pa_cons pe_int pa_nil))))) (fun σ H Q ⟨m, h8, k⟩ => by
      refine ⟨_, h8, _, _, rfl, rfl, _, rfl, ?_⟩
      by_cases hm : m < 4000
      · rw [decide_eq_true (by omega : (m : Int) < (4000 : Int))]
        refine iteT ⟨by show 1 ≤ sizeLine; decide, fun q hq => k _ q (Ex.new hq) ?_⟩
        rw [upd_same, if_pos hm]
        rfl
      · rw [decide_eq_false (by omega : ¬ (m : Int) < (4000 : Int))]
        refine iteF ⟨by show 3 ≤ sizeLine; decide, fun q hq => k _ q (Ex.new hq) ?_⟩
        rw [upd_same, if_neg hm]
        rfl)) (nomark _))
      (pss_one (ps_ret pe_bl))
      pss_nil)
    (pss_cons (ps_if (pt_cmpR (op_neD hr.units) (PE.imp (t' := tErr K Pt (gRep "+" (some "?"))) (pe_err De Te TB (by rfl) hr (lamS_by (sc := defScope s_law) (by decide +kernel)) (fun A2 o2 s2 H2 E2 f2 c2 hr2 => (pe_dS c_groups hr2 (by decide) (by rfl) (fun σ => passAt (takes_of rfl rfl rfl rfl) σ) (pa_cons (pe_op op_add_str (pe_op op_repS pe_str (pv 8)) pe_str) pa_nil)))) (fun σ H Q h => by
          obtain ⟨hT, h⟩ := h
          refine ⟨hT, fun H1 eN T1 => ?_⟩
          obtain ⟨v, out, ⟨m, h8, hm, hm2, rfl⟩, hs, k⟩ := h H1 eN T1
          refine ⟨_, h8, _, m, rfl, rfl, hm, by decide, by omega, by decide, (show 1 * m ≤ 1000000 by omega), _, _, rfl, rfl, by rw [sizeLine_eq, rep_len]; show 1 * m + 1 ≤ _; omega, ?_⟩
          have z := err_leaf (C := C) hs k
          exact z)) (PE.imp (t' := fun σ H Q => ∃ m : Nat, σ[8]? = some (some (.int (m : Int))) ∧ ∀ H' q, Ex H H' → H' q = some (.tup (resV (if m ≤ 4000 then some ((m : Int), 1) else some (4000, 2)))) → Q (.ref q) H') (pe_ifExp (pt_cmpR op_le (pv 8) pe_int (nomark _)) (pe_tup (pa_cons pe_str (pa_cons (pv 8) (pa_cons pe_int pa_nil)))) (pe_tup (pa_cons pe_str (pa_cons pe_int (pa_cons pe_int pa_nil))))) (fun σ H Q ⟨m, h8, k⟩ => by
      refine ⟨_, h8, _, _, rfl, rfl, _, rfl, ?_⟩
      by_cases hm : m ≤ 4000
      · rw [decide_eq_true (by omega : (m : Int) ≤ (4000 : Int))]
        refine iteT ⟨_, h8, by show 3 ≤ sizeLine; decide, fun q hq => k _ q (Ex.new hq) ?_⟩
        rw [upd_same, if_pos hm]
        rfl
      · rw [decide_eq_false (by omega : ¬ (m : Int) ≤ (4000 : Int))]
        refine iteF ⟨by show 3 ≤ sizeLine; decide, fun q hq => k _ q (Ex.new hq) ?_⟩
        rw [upd_same, if_neg hm]
        rfl)) (nomark _))
      (pss_one (ps_ret pe_bl))
      pss_nil)
    (pss_one (ps_ret (pe_and (pe_d c__law_is hr (by decide) (by rfl) (pa_cons (pe_dS (E := fun _ => E0) c_groups hr (by decide) (by rfl) passNo (pa_cons pe_str pa_nil)) (pa_cons (pe_tup (pa_cons pe_str (pa_cons pe_str (pa_cons pe_str (pa_cons pe_str (pa_cons pe_str (pa_cons pe_str pa_nil))))))) pa_nil))) (pe_one (pe_d c__law_is hr (by decide) (by rfl) (pa_cons (pe_dS (E := fun _ => E0) c_groups hr (by decide) (by rfl) passNo (pa_cons pe_str pa_nil)) (pa_cons (pe_tup (pa_cons pe_str (pa_cons pe_str (pa_cons pe_str (pa_cons pe_str (pa_cons pe_str pa_nil)))))) pa_nil))))))))))))))), ?_⟩
    have tab0 : Tabs [(Pt, qL)] H := fun p hp => by
      rw [List.mem_singleton.mp hp]
      exact TabS.nil hPt
    refine ⟨_, rfl, a, ns, rfl, hS, hl, fun b H1 nb hx1 hb1 => ?_⟩
    have tab1 : Tabs [(Pt, qL)] H1 := tab0.ext hx1
    refine ⟨4, rfl, by decide, by decide, for_it walk_range (fun i σ H' => ∃ v2 v3 v4 v5 v6 : Option V, σ = [some (.ref a), some (.ref b), v2, v3, v4, v5, v6, none, none, none] ∧ Bx.BoxAt H' b ∧ Tabs [(Pt, qL)] H') ⟨none, none, none, none, none, rfl, hb1, tab1⟩ (fun _ _ _ _ _ => trivial) ?_ ?_⟩
    · rintro i v σ H2 _ hi ⟨v2, v3, v4, v5, v6, rfl, hb2, tab2⟩ ⟨rfl, rfl⟩
      refine ⟨_, rfl, b, 40, rfl, hb2, by decide, by decide, fun r H3 e3 hb3 hr0 hr1 => ⟨r, rfl, by omega, by omega, ?_⟩⟩
      have tab3 := Tabs.exB hb2 e3 tab2
      refine for_it walk_range (fun j σ H' => ∃ (z : Str) (v4 : Option V), σ = [some (.ref a), some (.ref b), some (.int (0 + (i : Int))), some (.str z), v4, v5, v6, none, none, none] ∧ Bx.BoxAt H' b ∧ Tabs [(Pt, qL)] H' ∧ good (tl z) ∧ z.length ≤ 6 * j) ⟨"", v4, rfl, hb3, tab3, True.intro, Nat.zero_le _⟩ (fun _ _ _ _ _ => trivial) ?_ ?_
      · rintro j v σ H4 _ hj ⟨z, v4, rfl, hb4, tab4, hg, hz⟩ ⟨rfl, rfl⟩
        have hj40 : j < 40 := by omega
        refine ⟨_, rfl, _, rfl, b, rfl, hb4, fun y H5 hy e5 hb5 => ?_⟩
        obtain ⟨hyg, hyl⟩ := pieces_good y hy
        have tab5 := Tabs.exB hb4 e5 tab4
        refine ⟨_, _, rfl, rfl, by rw [sizeLine_eq]; omega, _, rfl, by show 2 ≤ sizeLine; decide, fun q hq => ?_⟩
        have hb6 := hb5.ex (Ex.new hq (o := .lst [.str "", .str " "]))
        have nq : q ≠ b := fun e => by
          rw [e] at hq
          obtain ⟨_, _, _, h1, _⟩ := hb5
          rw [h1] at hq
          cases hq
        refine ⟨b, q, [.str "", .str " "], rfl, hb6, SqL.of upd_same, nq, by simp, by show 2 ≤ 100000; decide, fun v H7 hv e7 hb7 => ?_⟩
        have hv' : v ∈ seps.map V.str := hv
        obtain ⟨x, hx, rfl⟩ := List.mem_map.mp hv'
        obtain ⟨hxg, hxl⟩ := seps_good x hx
        refine ⟨_, _, rfl, rfl, by rw [sizeLine_eq, len_app]; omega, z ++ y ++ x, _, rfl, hb7, Tabs.exB hb6 e7 (tab5.ext (Ex.new hq)), ?_, ?_⟩
        · rw [tl_app, tl_app]
          exact good_append (good_append hg hyg) hxg
        · rw [len_app, len_app]
          omega
      · rintro σ H4 ⟨z, v4, rfl, hb4, tab4, hg, hz⟩
        have hz240 : z.length ≤ 240 := by omega
        obtain ⟨gs, e1, hgl, c1, c2, c3, c4⟩ := asked hg (by rw [tl_len]; omega)
        have hfl : gs.flatten.length ≤ 240 := by
          have := lawCut_len (tl z) [] 32 32
          rw [e1] at this
          have this : gs.flatten.length ≤ 0 + z.length := this
          omega
        have hgl' : gs.length ≤ 240 := by
          rw [tl_len] at hgl
          omega
        refine ⟨_, rfl, z, rfl, by omega, good_lt hg, fun H5 p hx5 np hp5 => ?_⟩
        rw [e1] at hp5
        have npb : p ≠ b := fun e => by
          rw [e] at np
          obtain ⟨_, _, _, h1, _⟩ := hb4
          rw [h1] at np
          cases np
        have hb5 := hb4.ex hx5
        have tab5 := tab4.ext hx5
        clear hb4 tab4 hx5
        refine ⟨_, rfl, _, rfl, .inl ⟨z, rfl, by omega, fun gs' hg' H6 p6 hx6 np6 hp6 => ?_, fun _ _ h => by rw [c1] at h; cases h⟩⟩
        rw [c1] at hg'
        cases hg'
        refine ⟨_, rfl, .inl ⟨p, _, rfl, SqL.of (hx6 _ _ hp5), fun q hq => ?_⟩⟩
        refine ⟨_, _, .tuple ((gs.map S).map PyData.str), rfl, .tup (SqT.of (by rw [upd_ne (ne_of_none hp6 hq)]; exact hp6)) (gs_dp gs), .tup (SqT.of upd_same) (gs_dp gs), .tup PlTs.strs, fun H7 hx7 => ⟨true, rfl, iteF ?_⟩⟩
        have x7 : Ex H5 H7 := (hx6.trans (Ex.new hq)).trans hx7
        have hp7 := x7 _ _ hp5
        have hb7 := hb5.ex x7
        have tab7 := tab5.ext x7
        clear hx6 np6 hp6 hq hx7 x7 hp5 hb5 tab5
        have jl : (Txt.join " " (gs.map S)).length ≤ 1000 := by
          have e : (Txt.join " " (gs.map S)).length = (joinB gs).length := by
            rw [← tl_joinB]
            rfl
          have := joinB_len gs
          omega
        refine ⟨⟨_, rfl⟩, _, rfl, _, p, gs.map S, rfl, rfl, .inl (SqL.of (by rw [← gsV_eq]; exact hp7)), ?_, _, rfl, .inl ⟨_, rfl, by omega, fun gs' hg' H6 p6 hx6 np6 hp6 => ?_, fun _ _ h => by rw [tl_joinB, c2] at h; cases h⟩⟩
        · rw [gs_sum, List.length_map]
          show gs.flatten.length + gs.length * 1 ≤ _
          omega
        rw [tl_joinB, c2] at hg'
        cases hg'
        refine ⟨_, rfl, .inl ⟨p, _, rfl, SqL.of (hx6 _ _ hp7), fun q hq => ?_⟩⟩
        refine ⟨_, _, .tuple ((gs.map S).map PyData.str), rfl, .tup (SqT.of (by rw [upd_ne (ne_of_none hp6 hq)]; exact hp6)) (gs_dp gs), .tup (SqT.of upd_same) (gs_dp gs), .tup PlTs.strs, fun H8 hx8 => ⟨true, rfl, iteF ?_⟩⟩
        have x8 : Ex H7 H8 := (hx6.trans (Ex.new hq)).trans hx8
        have hp8 := x8 _ _ hp7
        have hb8 := hb7.ex x8
        have tab8 := tab7.ext x8
        clear hx6 np6 hp6 hq hx8 x8 hp7 hb7 tab7
        refine ⟨_, rfl, by show 10 ≤ sizeLine; decide, fun q hq => ?_⟩
        have nq : q ≠ b := fun e => by
          rw [e] at hq
          obtain ⟨_, _, _, h1, _⟩ := hb8
          rw [h1] at hq
          cases hq
        have x9 : Ex H8 (upd H8 q (.lst (wrongs.map V.str))) := Ex.new hq
        refine ⟨b, q, wrongs.map V.str, rfl, hb8.ex x9, SqL.of upd_same, nq, by simp [wrongs], by show 10 ≤ 100000; decide, fun v H9 hv e9 hb9 => ?_⟩
        obtain ⟨x, hx, rfl⟩ := List.mem_map.mp hv
        have hxl := wrongs_len x hx
        have tab9 := Tabs.exB (hb8.ex x9) e9 (tab8.ext x9)
        have hp9 := e9 _ _ (x9 _ _ hp8) npb
        clear x9 e9 hq nq hp8 hb8 tab8
        refine ⟨tab9, fun HA eN tabA => ⟨_, some ((gs.length : Int), 1), ⟨z, x, rfl, rfl, hz240, hxl, rfl⟩, .inl ⟨_, rfl, ?_, .inr ⟨gs.length, 1, ?_, rfl⟩⟩, fun HB pB hxB hpB => ?_⟩⟩
        · rw [len_app, len_app, len_app, len_app]
          show z.length + 1 + x.length + 1 + z.length ≤ _
          omega
        · rw [tl_app, tl_app, tl_app, tl_app, sp_tl]
          have h := wrong_gLen hx (tl z)
          have z1 := c4 _ h.1 h.2
          rw [← z1]
          congr 1
          simp
        have hpA := ofL eN hp9
        have hbA := BoxAt.exN eN hb9
        have hpB' := hxB _ _ hpA
        have hbB := hbA.ex hxB
        have tabB := tabA.ext hxB
        refine ⟨_, rfl, p, _, rfl, .inl (SqL.of hpB'), by show 3 ≤ sizeLine; decide, fun q hq => ?_⟩
        refine ⟨.tuple (resD (some ((gs.length : Int), 1))), .tuple (resD (some ((gs.length : Int), 1))), .tup (SqT.of (by rw [upd_ne (ne_of_none hpB hq)]; exact hpB)) (dp_res _), .tup (SqT.of (by rw [upd_same, List.length_map]; rfl)) (dp_res _), shaped_res _, shaped_res _, _, rfl, ?_⟩
        rw [eqv_res]
        refine iteF ?_
        have xC : Ex HB (upd HB q (.tup [.str "text", .int ((gsV gs).length : Nat), .int 1])) := Ex.new hq
        have hpC := xC _ _ hpB'
        have hbC := hbB.ex xC
        have tabC := tabB.ext xC
        refine ⟨_, rfl, _, _, rfl, rfl, by rw [sizeLine_eq]; show z.length + 1 ≤ _; omega, _, rfl, _, _, rfl, rfl, by rw [sizeLine_eq, len_app]; show z.length + 1 + z.length ≤ _; omega, _, rfl, .inl ⟨_, rfl, by rw [len_app, len_app]; show z.length + 1 + z.length ≤ _; omega, fun gs' hg' H6 p6 hx6 np6 hp6 => ?_, fun _ _ h => ?_⟩⟩
        · rw [tl_app, tl_app, nl_tl, List.append_assoc] at hg'
          rw [show tl z ++ ([10] ++ tl z) = tl z ++ 10 :: tl z from rfl, c3] at hg'
          cases hg'
          have h5 := hx6 _ _ hpC
          refine ⟨_, rfl, _, rfl, p, p, _, _, rfl, rfl, h5, h5, by rw [sizeLine_eq, List.length_map]; omega, fun q1 hq1 => .inl ⟨q1, _, rfl, SqL.of upd_same, fun q2 hq2 => ?_⟩⟩
          have e : gsV gs ++ gsV gs = gsV (gs ++ gs) := List.map_append.symm
          rw [e] at hq2 ⊢
          have x6 : Ex H6 (upd (upd H6 q1 (.lst (gsV (gs ++ gs)))) q2 (.tup (gsV (gs ++ gs)))) := (Ex.new hq1).trans (Ex.new hq2)
          refine ⟨_, _, .tuple (((gs ++ gs).map S).map PyData.str), rfl, .tup (SqT.of (x6 _ _ hp6)) (gs_dp _), .tup (SqT.of upd_same) (gs_dp _), .tup PlTs.strs, fun H7 hx7 => ⟨true, rfl, iteF ?_⟩⟩
          have x7 := (hx6.trans x6).trans hx7
          exact ⟨_, _, _, _, _, rfl, hbC.ex x7, tabC.ext x7⟩
        · rw [tl_app, tl_app, nl_tl, List.append_assoc] at h
          rw [show tl z ++ ([10] ++ tl z) = tl z ++ 10 :: tl z from rfl, c3] at h
          cases h
    · rintro σ H2 ⟨v2, v3, v4, v5, v6, rfl, hb2, tab2⟩
      refine ⟨Nat.zero_le _, fun t ht => ⟨by show 1 ≤ sizeLine; decide, fun l hl2 => ⟨"a", 20001, rfl, rfl, by decide, by decide, by decide, by decide, by decide, by show 6 ≤ sizeLine; decide, fun o ho => ?_⟩⟩⟩
      have xt : Ex H2 (upd H2 t (.tup [])) := Ex.new ht
      have ft : (upd H2 t (.tup [])) t = some (.tup []) := upd_same
      generalize upd H2 t (.tup []) = H3 at xt ft hl2 ho
      have xl : Ex H3 (upd H3 l (.lst [.str "a"])) := Ex.new hl2
      have fl : (upd H3 l (.lst [.str "a"])) l = some (.lst [.str "a"]) := upd_same
      have ft2 := xl _ _ ft
      generalize upd H3 l (.lst [.str "a"]) = H4 at xl fl ft2 ho
      have xo : Ex H4 (upd H4 o (.lst [.non, .int 3, .ref t, .ref l, .bl true, .str (repS "a" 20001)])) := Ex.new ho
      have fo : (upd H4 o (.lst [.non, .int 3, .ref t, .ref l, .bl true, .str (repS "a" 20001)])) o = some (.lst [.non, .int 3, .ref t, .ref l, .bl true, .str (repS "a" 20001)]) := upd_same
      have x5 := (xt.trans xl).trans xo
      refine ⟨o, rfl, ⟨_, SqL.of fo⟩, for_it (walk_list (xs := [.non, .int 3, .ref t, .ref l, .bl true, .str (repS "a" 20001)])) (fun i σ H' => ∃ v7 : Option V, σ = [some (.ref a), some (.ref b), v2, v3, v4, v5, v6, v7, none, none] ∧ Bx.BoxAt H' b ∧ Tabs [(Pt, qL)] H' ∧ H' o = some (.lst [.non, .int 3, .ref t, .ref l, .bl true, .str (repS "a" 20001)]) ∧ H' t = some (.tup []) ∧ H' l = some (.lst [.str "a"]))
        ⟨none, rfl, hb2.ex x5, tab2.ext x5, fo, xo _ _ ft2, xo _ _ fl⟩ (fun _ _ _ _ ⟨_, _, _, _, h, _⟩ => SqL.of h) ?_ ?_⟩
      · rintro i v σ H5 _ hi ⟨v7, rfl, hb5, tab5, fo5, ft5, fl5⟩ ⟨rfl, hv⟩
        refine ⟨tab5, fun HA eN tabA => ⟨v, some (-1, 0), rfl, ?_, fun HB pB hxB hpB => ?_⟩⟩
        · have ftA : HA t = some (.tup []) := eN _ _ ft5 fun _ => by simp
          have flA : HA l = some (.lst [.str "a"]) := eN _ _ fl5 fun _ => by simp
          match i, hv with
          | 0, hv =>
            cases Option.some.inj hv
            exact .inr (.inr ⟨_, .base .non, kit_ty (by decide +kernel), rfl⟩)
          | 1, hv =>
            cases Option.some.inj hv
            exact .inr (.inr ⟨_, .base (.int 3), kit_ty (by decide +kernel), rfl⟩)
          | 2, hv =>
            cases Option.some.inj hv
            exact .inr (.inr ⟨_, .base (.tup ftA), kit_ty (by decide +kernel), rfl⟩)
          | 3, hv =>
            cases Option.some.inj hv
            exact .inr (.inr ⟨_, .base (.lst flA), kit_ty (by decide +kernel), rfl⟩)
          | 4, hv =>
            cases Option.some.inj hv
            exact .inr (.inr ⟨_, .base (.bl true), kit_ty (by decide +kernel), rfl⟩)
          | 5, hv =>
            cases Option.some.inj hv
            refine .inr (.inl ⟨_, rfl, ?_, ?_, rfl⟩)
            · rw [rep_len]
              show 20000 < 1 * 20001
              decide
            · rw [rep_len]
              show 1 * 20001 ≤ 100000
              decide
          | j + 6, hv => simp at hv
        · refine ⟨1, rfl, by show 3 ≤ sizeLine; decide, fun q hq => ?_⟩
          refine ⟨.tuple (resD (some (-1, 0))), .tuple (resD (some (-1, 0))), .tup (SqT.of (by rw [upd_ne (ne_of_none hpB hq)]; exact hpB)) (dp_res _), .tup (SqT.of upd_same) (dp_res (some (-1, 0))), shaped_res _, shaped_res _, _, rfl, ?_⟩
          rw [eqv_res]
          have xC : Ex HB (upd HB q (.tup [.str "text", .int (-1), .int 0])) := Ex.new hq
          refine iteF ⟨_, rfl, (BoxAt.exN eN hb5).ex (hxB.trans xC), tabA.ext (hxB.trans xC), xC _ _ (hxB _ _ (ofL eN fo5)), xC _ _ (hxB _ _ (eN _ _ ft5 fun _ => by simp)), xC _ _ (hxB _ _ (ofL eN fl5))⟩
      · rintro σ H5 ⟨v7, rfl, hb5, tab5, _⟩
        refine ⟨b, rfl, hb5, fun m H6 m1 m2 e6 hb6 => ?_⟩
        have tab6 := Tabs.exB hb5 e6 tab5
        clear e6 tab5 hb5
        refine ⟨m, rfl, fun H7 d hx7 hd7 => ?_⟩
        have tab7 := tab6.ext hx7
        clear hb6 tab6 hx7
        refine ⟨tab7, fun HA eN tabA => ⟨_, _, ⟨m, rfl, by omega, m2, rfl⟩, says1 m2, fun HB pB hxB hpB => ?_⟩⟩
        have hd8 : HB d = _ := hxB _ _ (eN _ _ hd7 fun _ => by simp)
        refine ⟨_, rfl, _, _, .tup (SqT.of hpB) (dp_res _), .tup (SqT.of hd8) (dp_res _), shaped_res _, shaped_res _, _, rfl, ?_⟩
        rw [eqv_res]
        refine iteF ?_
        have tabB := tabA.ext hxB
        clear hd8 hd7 hpB hxB tabA eN tab7
        refine ⟨tabB, fun HC eN tabC => ⟨_, _, ⟨m, rfl, by omega, m2, rfl⟩, says2 m2, fun HD pD hxD hpD => ⟨m, rfl, fun HE q hxE hq => ?_⟩⟩⟩
        refine ⟨_, _, .tup (SqT.of (hxE _ _ hpD)) (dp_res _), .tup (SqT.of hq) (dp_res _), shaped_res _, shaped_res _, _, rfl, ?_⟩
        rw [eqv_res]
        refine iteF ?_
        have tabE := (tabC.ext hxD).ext hxE
        clear hq hxE hpD hxD tabC eN tabB
        refine ⟨tabE, fun HC eN tabC => ⟨_, _, ⟨m, rfl, by omega, m2, rfl⟩, says3 m2, fun HD pD hxD hpD => ⟨m, rfl, fun HF q hxF hq => ?_⟩⟩⟩
        refine ⟨_, _, .tup (SqT.of (hxF _ _ hpD)) (dp_res _), .tup (SqT.of hq) (dp_res _), shaped_res _, shaped_res _, _, rfl, ?_⟩
        rw [eqv_res]
        refine iteF ?_
        have s1 : [[97], [60, 61], [98], [61, 61], [45], [49]].map S = ([("a" : Str), "<=", "b", "==", "-", "1"] : List Str) := by decide +kernel
        have s2 : [[49], [97], [97, 49], [61, 61], [61]].map S = ([("1" : Str), "a", "a1", "==", "="] : List Str) := by decide +kernel
        refine ⟨_, rfl, .inl ⟨_, rfl, by decide, fun gs' hg' H6 p6 hx6 np6 hp6 => ?_, fun _ _ h => by rw [g1] at h; cases h⟩⟩
        rw [g1] at hg'
        cases hg'
        refine ⟨by show 6 ≤ sizeLine; decide, fun q hq => ?_⟩
        refine ⟨_, _, .tuple (([[97], [60, 61], [98], [61, 61], [45], [49]].map S).map PyData.str), rfl, .tup (SqT.of (by rw [upd_ne (ne_of_none hp6 hq)]; exact hp6)) (gs_dp _), .tup (SqT.of upd_same) (by rw [s1]; exact dp_strs ["a", "<=", "b", "==", "-", "1"]), .tup PlTs.strs, fun H7 hx7 => ⟨true, rfl, iteT ?_⟩⟩
        refine ⟨_, rfl, .inl ⟨_, rfl, by decide, fun gs' hg' H6 p6 hx6 np6 hp6 => ?_, fun _ _ h => by rw [g2] at h; cases h⟩⟩
        rw [g2] at hg'
        cases hg'
        refine ⟨by show 5 ≤ sizeLine; decide, fun q hq => ?_⟩
        exact ⟨_, _, .tuple (([[49], [97], [97, 49], [61, 61], [61]].map S).map PyData.str), rfl, .tup (SqT.of (by rw [upd_ne (ne_of_none hp6 hq)]; exact hp6)) (gs_dp _), .tup (SqT.of upd_same) (by rw [s2]; exact dp_strs ["1", "a", "a1", "==", "="]), .tup PlTs.strs, fun H7 hx7 => k _⟩
end
end K01
end of_K01I

section of_K01J
set_option maxRecDepth 100000
set_option maxHeartbeats 0
/-! The head of k01. -/
namespace K01
open PySem PySem.Spec PyProof.Rows L2 He Rx
abbrev R : PySem.W.OpenRow := PySem.W.OpenLaw.row PySem.Challenge.rw_runscarried_k01_whole_texts_cut_into_gro
def xText : ExD := ⟨"InvalidText", ["at", "why"], initOf (top 2)⟩
def fn : List DefD := [dAt "end_of" sEnd, dAt "group_end" sGrp, dAt "groups" s_groups, dAt "_law_box" (top 14), dAt "_law_take" (top 15), dAt "_law_pick" (top 16), dAt "_law_is" (top 17), dAt "_law_cut" s__law_cut, dAt "_law_error" s__law_error, dAt "_law_piece" s__law_piece, dAt "law" s_law]
def fa : List Fa := [.glo "end_of", .glo "group_end", .glo "groups", .glo "_law_box", .glo "_law_take", .glo "_law_pick", .glo "_law_is", .glo "_law_cut", .glo "_law_error", .glo "_law_piece", .glo "law", .glo "DOUBLE", .glo "InvalidText",
  .free "len", .free "isinstance", .free "abs", .free "sum", .free "int", .free "str", .free "bool", .free "tuple", .free "list", .free "dict", .free "range", .free "enumerate", .free "zip", .free "super",
  .str "LETTERS" LET, .str "FIGURES" FIG, .str "SINGLE" SIN, .int "MOST_SIGNS" 20000, .int "MOST_GROUPS" 4000, .exm "InvalidText" "InvalidText" true]
def xs : List ExD := [xText]
def tf : List Defn := [("law", none)]
def exB (K : PySem.W.Frag) : Bool := xText.ok R.prog.main.file K && (tupB K "DOUBLE" [.str D1, .str D2, .str D3] && xfB K (ga K "InvalidText"))
abbrev hk : PySem.W.Hook := hookR 5 fa fn xs tf exB
def ob (s : PySem.W.SharedT) : AlR := obsR 5 fa fn xs tf exB (HandSHeadRun.getT s)
theorem ob_eq (s : PySem.W.SharedT) : ob s = hk.obs s.abs := obsR_eq (HandSHeadRun.getT_eq s)
def names : List PySem.Str := ["CarryError", "InvalidText", "MOST_SIGNS", "MOST_GROUPS", "LETTERS", "FIGURES", "SINGLE", "DOUBLE", "end_of", "group_end", "groups", "_law_box", "_law_take", "_law_pick", "_law_is", "_law_cut", "_law_error", "_law_piece"]
theorem run (w : World) : HandSHeadRun.RunEq R (PySem.W.view R.prog [21]) hk ob 4000 names w := by
  intro os
  kernel_rfl
theorem xs_ok : ExS xText := by
  refine ⟨⟨_, _, _, _, _, _, _, _, _, _, keepsIn (defBody xText.ini).tail, rfl, rfl, rfl, rfl, rfl, rfl, rfl, by decide, by decide, by decide, by decide, by decide, fun L fI cda cc => ?_⟩, fun kV doc pm ct an cda cc us hl => ?_⟩
  · exact ⟨_, rfl⟩
  · match us, hl with
    | [_, _, _], _ => rfl
theorem facts {P : Program} {w : World} {K : PySem.W.Frag} {h : Heap} {mg : Str → Option Value} (hPf : P.main.file = R.prog.main.file) (hPs : (P.main.scope.names.lookup ("super" : Str)).isSome = false) (X : K.In h) (G : h.Ns mainGlobals mg) (c : SaysR fa fn xs tf exB h K) :
    ∃ fd : FuncData, (∀ (s : Shared) (v : Value), BindsTo s fd ⟨[v], []⟩ [("script", v)]) ∧ ∀ base : Heap, K.In base → base.Ns mainGlobals mg → LamX.TabB base mg (cT K ("law", none)).1 (cT K ("law", none)).2 → FnOk P w K mg base CX0 7 (ga K "law") fd ["script"] (spLaw K (cT K ("law", none)).2) := by
  obtain ⟨m1, m2⟩ := ba c.more
  obtain ⟨m2, m3⟩ := ba m2
  have T : Rx.Bts mg := ⟨c.free X G (by simp [fa]), c.free X G (by simp [fa]), c.free X G (by simp [fa]), c.free X G (by simp [fa]), c.free X G (by simp [fa]), c.free X G (by simp [fa]), c.free X G (by simp [fa]), c.free X G (by simp [fa]), c.free X G (by simp [fa]), c.free X G (by simp [fa]), c.free X G (by simp [fa]), c.free X G (by simp [fa]), c.free X G (by simp [fa])⟩
  have XT : XTxt P K mg (ga K "InvalidText") (ma K (ga K "InvalidText") "__init__") "InvalidText" ["at", "why"] := c.txt X G xs_ok (by simp [xs]) (by simp [fa]) hPs (by rw [hPf]; exact m1)
  have str : ∀ {x z : Str}, Fa.str x z ∈ fa → ∃ u, mg x = some u ∧ RelV (.str z) u := fun m => by
    obtain ⟨t, e⟩ := str_ok X G (c.d.facts m)
    exact ⟨_, e, ⟨t, rfl⟩⟩
  have int : ∀ {x : Str} {i : Int}, Fa.int x i ∈ fa → ∃ u, mg x = some u ∧ RelV (.int i) u := fun m => by
    obtain ⟨t, e⟩ := int_ok X G (c.d.facts m)
    exact ⟨_, e, ⟨t, rfl⟩⟩
  have TG : TxtG P K mg (ga K "InvalidText") (ma K (ga K "InvalidText") "__init__") := { toBts := T, X_InvalidText := XT, MOST_SIGNS := int (by simp [fa]), MOST_GROUPS := int (by simp [fa]) }
  have TX : Txt K mg := ⟨T.len_, str (by simp [fa]), str (by simp [fa]), str (by simp [fa]), ga K "DOUBLE", c.glo X G (by simp [fa]), fun H => tupB_ok m2 H⟩
  have TE : TxtE K mg (ga K "InvalidText") := ⟨xfB_ok m3, XT.no _ (by simp), XT.no _ (by simp), of_decide_eq_true (c.d.facts (f := .exm "InvalidText" "InvalidText" true) (by simp [fa])), XT.gC⟩
  have D1 : DefT K mg "end_of" sEnd ["text", "at", "signs"] := c.def_ X G (by simp [fn]) (by simp [fa]) fun _ _ _ _ _ _ us hl => match us, hl with | [_, _, _], _ => rfl
  have D2 : DefT K mg "group_end" sGrp ["text", "at"] := c.def_ X G (by simp [fn]) (by simp [fa]) fun _ _ _ _ _ _ us hl => match us, hl with | [_, _], _ => rfl
  have D3 : DefT K mg "groups" s_groups ["text"] := c.def_ X G (by simp [fn]) (by simp [fa]) fun _ _ _ _ _ _ us hl => match us, hl with | [_], _ => rfl
  have D4 : DefT K mg "_law_box" (top 14) ["script"] := c.def_ X G (by simp [fn]) (by simp [fa]) fun _ _ _ _ _ _ us hl => match us, hl with | [_], _ => rfl
  have D5 : DefT K mg "_law_take" (top 15) ["box", "many"] := c.def_ X G (by simp [fn]) (by simp [fa]) fun _ _ _ _ _ _ us hl => match us, hl with | [_, _], _ => rfl
  have D6 : DefT K mg "_law_pick" (top 16) ["box", "some"] := c.def_ X G (by simp [fn]) (by simp [fa]) fun _ _ _ _ _ _ us hl => match us, hl with | [_, _], _ => rfl
  have D7 : DefT K mg "_law_is" (top 17) ["told", "due"] := c.def_ X G (by simp [fn]) (by simp [fa]) fun _ _ _ _ _ _ us hl => match us, hl with | [_, _], _ => rfl
  have D8 : DefT K mg "_law_cut" s__law_cut ["text"] := c.def_ X G (by simp [fn]) (by simp [fa]) fun _ _ _ _ _ _ us hl => match us, hl with | [_], _ => rfl
  have D9 : DefT K mg "_law_error" s__law_error ["call"] := c.def_ X G (by simp [fn]) (by simp [fa]) fun _ _ _ _ _ _ us hl => match us, hl with | [_], _ => rfl
  have D10 : DefT K mg "_law_piece" s__law_piece ["box"] := c.def_ X G (by simp [fn]) (by simp [fa]) fun _ _ _ _ _ _ us hl => match us, hl with | [_], _ => rfl
  obtain ⟨fd, DL, bL⟩ := c.defF X G (x := "law") (st := s_law) (by simp [fn])
  refine ⟨fd, fun s v => bL ["script"] (fun _ _ _ _ _ _ us hl => match us, hl with | [_], _ => rfl) s [v] rfl, fun base KB GB TB => ?_⟩
  have c2 : DefAt P w K mg base CX0 2 "group_end" ["text", "at"] spGrp := by
    obtain ⟨f1, fd1, F1, g1, b1⟩ := D1
    obtain ⟨f2, fd2, F2, g2, b2⟩ := D2
    exact ⟨f2, fd2, ok_grp F2 TX F1 b1 g1, g2, F2.kp, b2⟩
  have c3 : DefAt P w K mg base (L2.CX P w) 4 "groups" ["text"] (spGroups K (ga K "InvalidText")) := ok_groups D3 TG c2
  have c5 : DefAt P w K mg base CX0 1 "_law_take" ["box", "many"] Bx.spTake := Bx.ok_take D5 T
  have c6 : DefAt P w K mg base CX0 2 "_law_pick" ["box", "some"] (Bx.spPick K) := Bx.ok_pick D6 T c5
  exact ok_law DL T TB TE D9 c3 (Bx.ok_box D4 T) c5 c6 (ok_piece D10 c6) (ok_cut D8 T) (Ix.ok_is D7 T 2)
end K01
open PySem PySem.W PySem.Calls PyProof.Rows
theorem PySem.Challenge.cw_runscarried_k01_whole_texts_cut_into_gro_holds : PySem.Challenge.rw_runscarried_k01_whole_texts_cut_into_gro.Holds := by
  w_on; o_law
  refine HandSHeadRun.head_any (r := K01.R) (q := view K01.R.prog [21]) (H := K01.hk) (ob := K01.ob) (M := 4000) (loose := K01.names) (d := HandSHeadRun.topDef K01.R.prog 21) (kwd := []) K01.ob_eq
    (by kernel_rfl) (fun s => by kernel_rfl) K01.run (by kernel_rfl) (by kernel_rfl) (by kernel_rfl) (by rfl) (by first | assumption | decide +kernel) (by decide +kernel) ⟨rfl, rfl, rfl, rfl, rfl, by decide +kernel⟩ ?hw ?hc
  case hw => w_witness2
  case hc =>
    refine LamX.walk_ofTsE (l := PySem.Challenge.rw_runscarried_k01_whole_texts_cut_into_gro) (n := 63) (k := 7) (x := "script") (CX := fun _ => L2.CX0) rfl (by decide) (by kernel_rfl) ⟨rfl, by decide, by decide⟩ ?F (fun _ _ _ _ _ z => z)
    intro w mg fa h Y G hmg0
    obtain ⟨K, KX, c⟩ := Y
    have hmg : mg ("law" : PySem.Str) = some (.ref fa) := by
      have e : (HandSHeadRun.topDef K01.R.prog 21).name = ("law" : PySem.Str) := by kernel_rfl
      rw [← e]
      exact hmg0
    have e := hmg.symm.trans (c.glo KX G (x := "law") (by simp [K01.fa]))
    cases e
    obtain ⟨fd, hb, hF⟩ := K01.facts (P := (PySem.Challenge.rw_runscarried_k01_whole_texts_cut_into_gro).prog) (w := w) rfl (by decide +kernel) KX G c
    have one : ∀ p ∈ [He.cT K ("law", none)], p = He.cT K ("law", none) := fun p hp => List.mem_singleton.mp hp
    refine ⟨K, KX, fd, [He.cT K ("law", none)], _, fun p hp => ?_, fun p hp => ?_, fun p hp => ?_, hb, fun H a ns hl hbits hT hS => ⟨a, ns, rfl, hS, hl, hT _ (List.mem_singleton.mpr rfl), fun _ => rfl⟩, fun base KB GB TB => hF base KB GB (TB _ (List.mem_singleton.mpr rfl))⟩
    · rw [one p hp]
      exact c.empty _ (by simp [K01.tf])
    · rw [one p hp]
      exact c.out _ (by simp [K01.tf])
    · rw [one p hp]
      exact codeHd_of_K KX (c.hd _ (by simp [K01.tf]))
end of_K01J
