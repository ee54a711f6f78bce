import PyProof.Rows.All
import Wide.All
import OpenK.AllK
import Wide.FinOn
import HandS.Exc
import HandS.ExcInit
import HandS.ExcIs
import HandS.ExcField
import KE.KExcSuper
import HandS.ExcValue
import KE.KExcIs
import KE.KTryMore
import HandS.Lambda
import HandS.Defaults
import HandS.ForMost
import HandS.Walk
import HandS.WordsExc
import HandS.Style
import HandS.Zip
import HandS.TupAny
import HandS.IsInst
import HandS.Wide
import HandS.Deep
import KE.DataMinMax
import KE.SortData
import HandS.TupMul
import HandS.More
import PyProof.ReprRoads
import PyProof.ReprBulk
import HandS.Iter
import KE.GoesNew
import KE.GoesMore
import KE.GoesEnum
import HandS.List
import KE.KRevSl
import HandS.DictEq
import HandS.TupSets
import KE.KExcMake
import HandS.HeadEnd
import HandS.Codes
import HandS.Text
import HandS.NoneIn
import HandS.Star
import HandS.TryOnly
import HandS.Head0
import HandS.Head1
import HandS.Head2
import HandS.HeadHook1
import HandS.HeadHook2
import KE.KStateDown
import HandS.HeadHook3
import HandS.EndTab
import PyProof.InstStoreFacts
import PyProof.ExcBaseAll.ValueError
import PyProof.ExcBaseAll.OverflowError
import PyProof.ExcBaseAll.LookupError
import KE.KExcInit
import KE.KNestM
import PySem.Challenge.RW_evenkept_k01_errors
set_option Elab.async false
set_option linter.all false
set_option maxRecDepth 100000
set_option maxHeartbeats 4000000
namespace EK
open PySem L2 PySem.Spec PySem.W PySem.Calls PyProof.Rows
section
open Builtin Builtin.ObjectAttr
variable {prog : Program} {w : World} {A : Around} {E : Value → Shared → Prop} {R : Result → Shared → Prop} {hp : Heap} {g : Array GenState} {d : Drawn} {t : Nat} {os : OsState}
/-- the first field of an exception that is being made -/
theorem osaG {K : W.Frag} {name : Str} {tk : Tok} {v : Value} {x C t1 : Addr} {B : String} {bmB : List Value} (SF : StoreFacts B bmB "object.__setattr__" "object")
    (X : K.In hp) (hx : hp.get? x = some (excObj C t1 none .none)) (ho : excOver K C bmB = true) (ht : takerIn K C name = some none) (hh : hasDictIn K C = true)
    (hq : ∀ h' tk' dx, (∀ b o, b ≠ x → hp.get? b = some o → h'.get? b = some o) → hp.objs.size ≤ dx → dx ≠ x → h'.get? x = some (excObj C t1 (some dx) .none) →
      h'.Ns1 dx (fun y => if y = name then some v else none) → R (.ok (.ret .none)) ⟨h', g, d, tk', os⟩) :
    codeAny (model prog w) A (.call (.builtin "object.__setattr__") ⟨[.ref x, .str name tk, v], []⟩) R ⟨hp, g, d, t, os⟩ := by
  refine osa_openX (od := none) SF X ⟨hx, rfl, rfl, trivial⟩ ho ht fun b => ?_
  obtain ⟨cd, hc, hd'⟩ := any_some hh
  have hcls : W.Looks (model prog w) hp (classData C) cd := W.looks_clsIn X hc
  have hxs : x ≠ hp.objs.size := Nat.ne_of_lt (Heap.lt_size hx)
  obtain ⟨nm, bs, mro, ns, qn, hd, sn, sb, ab, col, del⟩ := cd
  dsimp only at hd'
  subst hd'
  show wpAny _ _ (storeInOwnDict (.ref x) (.ref C) (.str name tk) name v b) _ _ _
  unfold storeInOwnDict ownDictForStores
  repeat (first | with_reducible refine HandSPX.store_in_new ?_ ?_ | with_reducible refine wpAny_loadPart_at hx ?_ | with_reducible refine hcls.at ?_ | wp_step)
  · exact ⟨_, #[], _, (Heap.get?_update_ne _ _ _ _ hxs.symm).trans (Heap.get?_push_at rfl rfl), rfl, fun e he => absurd he (by simp), fun _ => rfl⟩
  · intro h' tk' hn' hs
    have hx₁ : (hp.push { cls := .type "dict", data := .dict #[] }).get? x = some (excObj C t1 none .none) := Heap.get?_push_of_some _ hx
    refine hq h' tk' hp.objs.size (fun b o hb ho => ?_) (Nat.le_refl _) hxs.symm ?_ hn'
    · exact (hs.2 b (Nat.ne_of_lt (Heap.lt_size ho))).trans ((Heap.get?_update_ne _ _ _ _ hb).trans (Heap.get?_push_of_some _ ho))
    · exact (hs.2 x hxs).trans (Heap.get?_update_self _ hx₁ rfl)
end
section
variable {prog : Program} {w : World} {A : Around} {E : Value → Shared → Prop} {h : Heap} {g : Array GenState} {d : Drawn} {t : Nat} {os : OsState} {K : W.Frag} {B newId i : String} {bmB : List Value}
theorem mw_call {u x C t0 : Addr} {v : Value} {Q : Value → Shared → Prop} (FB : ExcBaseFacts B newId i bmB) (X : K.In h) (q : excInitIn K C bmB newId = true) (hx : h.get? x = some (excObj C t0 none .none)) (hu : h.get? u = some (kxs_mw i x))
    (hq : ∀ h', (∀ b o, b ≠ x → h.get? b = some o → h'.get? b = some o) → h'.get? x = some (excObj C h.objs.size none .none) → Q .none ⟨h', g, d, t, os⟩) : wpAny (model prog w) A (call (.ref u) [v]) Q E ⟨h, g, d, t, os⟩ := by
  obtain ⟨nm, N', qn, bs, bm, hdct, sn, sub, ab, col, dd, k0, k1, k2, k3, k5, hC, hT⟩ := excInit_of X q
  refine wpAny_call (codeAny_of_tree ?_)
  show wpAny _ A.in1 (callAny (.ref u) ⟨[v], []⟩) _ _ _
  simp only [callAny]
  refine wpAny_bind (wpAny_load hu ?_)
  simp only [kxs_mw, show (Value.type "method-wrapper" == Value.type "method" || Value.type "method-wrapper" == Value.type "builtin_function_or_method" || Value.type "method-wrapper" == Value.type "method-wrapper") = true by decide, if_true]
  refine KFB.if_so (by decide) ?_
  refine wpAny_bind (check_bound_init FB.toExcCallFacts hC hx rfl ?_)
  refine wpAny_bind (wpAny_pure (wpAny_pure ?_))
  refine ⟨plainId_quiet FB.init.plain _, codeAny_builtin FB.initEntry ?_⟩
  exact exc_init_tree (cls := .ref C) (t0 := t0) (dv := none) (c2 := .none) (c3 := .none) (b4 := .bool false) hx (by show 1 ≤ sizeLine; rw [sizeLine_eq]; omega) fun h' k e _ => hq h' k e
end
/-- the body of the __init__ of an error of the program -/
abbrev xBody (f msg : Str) (j : Nat) (p0 p1 p2 p3 p4 p5 p6 p7 p8 p9 : Pos) : List Stmt :=
  [.Expr (.Call (.Attribute (.Call (.Name "super" p0) [] [] p1) "__init__" p2) [.Constant (.str msg) j p3] [] p4) p5,
   .Assign [.Attribute (.Name "self" p6) f p7] (.Name f p8) p9]
/-- an error class of the program: its own __init__ says super().__init__(text) and keeps one field -/
structure XC (prog : Program) (K : W.Frag) (C : Addr) (f : Str) (B newId initId : String) (bmB : List Value) : Prop where
  fb : ExcBaseFacts B newId initId bmB
  kf : KxsFacts B initId
  sf : StoreFacts B bmB "object.__setattr__" "object"
  ini : excInitIn K C bmB newId = true
  ovr : excOver K C bmB = true
  tak : takerIn K C f = some none
  hd : hasDictIn K C = true
  sa : findIn K (.ref C) "__setattr__" = some (some (.builtin "object.__setattr__"))
  sup : ks_superIn K C C "__init__" = some (some (.builtin initId))
  sub : subIn K (.ref C) (.type B) = some true
  own : mroIn K C (.ref C) = some true
  opq : nsIn K cStatics "thirdparty.any" = some none
  top : (prog.main.scope.names.lookup ("super" : Str)).isSome = false
  exC : subIn K (.ref C) (.type "BaseException") = some true
  tyC : typeIn K (.ref C) = some (.type "type")
  kC : keepIn K (.ref C) = true
  fn : ∃ (fI cc cda : Addr) (od od2 od3 : Option Addr) (osl osl2 osl3 : Array (Option Value)) (qual : Str) (params : Arguments) (scope : Scope) (dV kV doc pm ct ccl cl : Value) (an : Option Addr) (msg : Str) (j : Nat) (p0 p1 p2 p3 p4 p5 p6 p7 p8 p9 : Pos)
      (vs : Array Value) (file : Str) (tf : Tok) (ar : Arg),
    findIn K (.ref C) "__init__" = some (some (.ref fI)) ∧
    K.lookup fI = some ⟨.type "function", od, .func (ksFn "__init__" qual params (xBody f msg j p0 p1 p2 p3 p4 p5 p6 p7 p8 p9) scope dV kV doc pm an (.ref cda) ct cc), osl⟩ ∧
    codeIn K (.ref cda) qual = true ∧ K.lookup cda = some ⟨ccl, od2, .fields vs, osl2⟩ ∧ vs[2]? = some (.str file tf) ∧ ((prog.main.file : Str) == file) = true ∧
    K.lookup cc = some ⟨cl, od3, .cell (some (.ref C)), osl3⟩ ∧ (params.posonlyargs ++ params.args).head? = some ar ∧ ar.arg = "self" ∧
    scope.names.lookup ("super" : Str) = some .globalImplicit ∧ scope.names.lookup ("__class__" : Str) = some .free ∧ scope.names.lookup ("self" : Str) = some .local ∧ scope.names.lookup f = some .local ∧
    scope.kind = .function ∧ scope.isCoroutine = false ∧ scope.isGenerator = false ∧ (∀ y ∈ scope.names, y.2 ≠ .cell) ∧ (f == ("__debug__" : Str)) = false ∧ f ≠ "self" ∧ (p2.endLine == p4.line) = true ∧
    (∀ e v : Value, bindArgs (ksFn "__init__" qual params (xBody f msg j p0 p1 p2 p3 p4 p5 p6 p7 p8 p9) scope dV kV doc pm an (.ref cda) ct cc) ⟨[e, v], []⟩ = pure [(("self" : Str), e), (f, v)]) ∧
    ∀ e v : Value, bindArgs (ksFn "__init__" qual params (xBody f msg j p0 p1 p2 p3 p4 p5 p6 p7 p8 p9) scope dV kV doc pm an (.ref cda) ct cc) ⟨[e], [(f, v)]⟩ = pure [(("self" : Str), e), (f, v)]
theorem mcall_eq {o : Expr} {name : Str} {apos pos : Pos} {a : Expr} {env : Env} (h : (apos.endLine == pos.line) = true) (ha : starEach [a] env = [(false, eval a env)]) : eval (.Call (.Attribute o name apos) [a] [] pos) env = (do
      let ov ← attributeBase o name env (eval o env)
      standAt apos.atName
      let (f, first) ← holding [ov] (getMethod ov name (do return (← importBound o env).getD true))
      callWith pos f first (backTo pos (starEach [a] env)) []) := by
  show (do let ov ← attributeBase o name env (eval o env); standAt apos.atName; methodCall o name apos pos env ov 1 (backTo pos (starEach [a] env)) []) = _
  have hf : methodCallForm 1 (backTo pos (starEach [a] env)) [] = true := by rw [ha]; rfl
  unfold methodCall calleeOf methodCallPos
  rw [hf, h]
  rfl
section
variable {prog : Program} {w : World} {A : Around} {E : Value → Shared → Prop} {K : W.Frag} {mg : Str → Option Value} {base : Heap}
theorem xmake {C : Addr} {f : Str} {B newId initId : String} {bmB : List Value} {k : Nat} {s : Shared} {v : Value} {Q : Value → Shared → Prop} (T : XC prog K C f B newId initId bmB) (M : L2.Mod K mg base) (hsup : mg "super" = none)
    (bs : ∀ b o, base.get? b = some o → s.heap.get? b = some o) (hr : Room (k + 1) A)
    (hq : ∀ h' tk' a d t1, (∀ b o, s.heap.get? b = some o → h'.get? b = some o) → s.heap.objs.size ≤ a → s.heap.objs.size ≤ d → d ≠ a → h'.get? a = some (excObj C t1 (some d) .none) →
      h'.Ns1 d (fun y => if y = f then some v else none) → Q (.ref a) { s with heap := h', toks := tk' }) :
    wpAny (model prog w) A (call (.ref C) [v]) Q E s := by
  obtain ⟨fI, cc, cda, od, od2, od3, osl, osl2, osl3, qual, params, scope, dV, kV, doc, pm, ct, ccl, cl, an, msg, j, p0, p1, p2, p3, p4, p5, p6, p7, p8, p9, vs, file, tf, ar, hfi, lkf, hcd, lkc, hvs, hfile, lkcell, hpar, harg, n1, n2, n3, n4, hkd, hco, hgen, hcel, hdb, hfs, hln, hbind, hkw⟩ := T.fn
  obtain ⟨kd, nms, gn, co, mr⟩ := scope
  dsimp only at hkd hco hgen n1 n2 n3 n4 hcel
  subst hkd hco hgen
  obtain ⟨hp, g, dr, tk, os⟩ := s
  have X : K.In hp := M.kin.keeps bs
  obtain ⟨nm, N', qn, bs', bm, hdct, sn, sub, ab, col, dd, k0, k1, k2, k3, k5, hC, hT⟩ := excInit_of X T.ini
  refine wpAny_call (HandSPX.call_own T.fb hT hC (looks_findIn X hfi) (fun self => exc_bind (X _ _ lkf) rfl self) (by show 1 ≤ sizeLine; rw [sizeLine_eq]; omega) ?_)
  have kk : ∀ b o, hp.get? b = some o → ((hp.push (W.kdv_tup [v])).push (HandSPX.excO C hp.objs.size)).get? b = some o := fun b o e => Heap.get?_push_of_some _ (Heap.get?_push_of_some _ e)
  have hget : ((hp.push (W.kdv_tup [v])).push (HandSPX.excO C hp.objs.size)).get? (hp.objs.size + 1) = some (excObj C hp.objs.size none .none) := by heap_get
  have hsz : ((hp.push (W.kdv_tup [v])).push (HandSPX.excO C hp.objs.size)).objs.size = hp.objs.size + 2 := by rw [Heap.size_push, Heap.size_push]
  generalize hh2 : (hp.push (W.kdv_tup [v])).push (HandSPX.excO C hp.objs.size) = h2 at kk hget hsz ⊢
  refine ks_codeAny_call_defAt (s := ⟨h2, g, dr, tk, os⟩) (fd := ksFn "__init__" qual params (xBody f msg j p0 p1 p2 p3 p4 p5 p6 p7 p8 p9) ⟨.function, nms, false, false, mr⟩ dV kV doc pm an (.ref cda) ct cc) (body := xBody f msg j p0 p1 p2 p3 p4 p5 p6 p7 p8 p9)
    (binds := [(("self" : Str), .ref (hp.objs.size + 1)), (f, v)]) (hr.make C [v] []).depth (kk _ _ (X _ _ lkf)) rfl ((M.nolimit.keeps bs).keeps kk) (codeRec_of (X.keeps kk) hcd) rfl (BindsTo.of_eq (hbind _ _)) hcel (fun y hy => ?_) (fun h₁ hns hk₁ => ?_) rfl rfl rfl
  · rcases List.mem_cons.mp hy with rfl | hy
    · exact n3
    · obtain rfl := List.mem_singleton.mp hy
      exact n4
  have lkS : [(("self" : Str), Value.ref (hp.objs.size + 1)), (f, v)].reverse.lookup ("self" : Str) = some (Value.ref (hp.objs.size + 1)) := by
    have e : ((("self" : Str)) == f) = false := by
      rw [beq_eq_false_iff_ne]
      exact fun z => hfs z.symm
    show List.lookup _ [(f, v), (("self" : Str), Value.ref (hp.objs.size + 1))] = _
    rw [List.lookup_cons, e]
    rfl
  have lkF : [(("self" : Str), Value.ref (hp.objs.size + 1)), (f, v)].reverse.lookup f = some v := by
    show List.lookup _ [(f, v), (("self" : Str), Value.ref (hp.objs.size + 1))] = _
    rw [List.lookup_cons, beq_self_eq_true]
  have k1 : ∀ b o, hp.get? b = some o → h₁.get? b = some o := fun b o e => hk₁ b o (kk b o e)
  have kB : ∀ b o, base.get? b = some o → h₁.get? b = some o := fun b o e => k1 b o (bs b o e)
  have X1 : K.In h₁ := M.kin.keeps kB
  obtain ⟨mb, hmb, hbb⟩ := M.blt
  obtain ⟨cd, hc⟩ : ∃ cd, clsIn K C = some cd := by
    obtain ⟨cd, hc, _⟩ := any_some T.hd
    exact ⟨cd, hc⟩
  have hDx : ∀ {h : Heap}, K.In h → ∃ oD, h.get? C = some oD ∧ oD.data = .cls cd := fun {h} Xh => by
    have hc := hc
    unfold clsIn at hc
    split at hc
    · rename_i ho
      cases hc
      exact ⟨_, Xh _ _ ho, rfl⟩
    · cases hc
  obtain ⟨oD, hD1, hD2⟩ := hDx X1
  have hx1 : h₁.get? (hp.objs.size + 1) = some (excObj C hp.objs.size none .none) := hk₁ _ _ hget
  refine ks_wpAt_execs_cons (ks_wpAt_Expr_any (ks_wpAt_MethodCall (ks_wpAt_super_base (f := fI) (cc := cda) (ar := ar) n1 n2 (by decide) rfl (X1 _ _ lkf) rfl hpar rfl (X1 _ _ lkc) rfl hvs hfile T.top ?_) (mcall_eq hln rfl)))
  refine ks_loadName_global rfl n1 (loadGlobal_builtin (M.glob.keeps kB) hsup (hmb.keeps kB) ((hbb _ (by decide)).trans PyProof.Rows.Boot.«super») ⟨rfl, ?_⟩)
  refine wpAny_loadName_free (c := cc) rfl n2 rfl ⟨_, X1 _ _ lkcell, rfl⟩ ?_
  rw [harg]
  refine wpAny_loadName_local (v := .ref (hp.objs.size + 1)) rfl n3 hns lkS ?_
  refine ks_wpAny_isType_cls hD1 hD2 ⟨rfl, ?_⟩
  refine ks_wpAny_call_super hD1 hD2 hx1 rfl (fun c e => by cases e) (looks_mroIn X1 T.own) (fun h3 hso k3 => ?_)
  have X3 : K.In h3 := X1.keeps k3
  have hx3 := k3 _ _ hx1
  have I3 : InstAt h3 (hp.objs.size + 1) (excObj C hp.objs.size none .none) C none := ⟨hx3, rfl, rfl, trivial⟩
  have hsup := T.sup
  unfold ks_superIn at hsup
  rw [hc] at hsup
  refine kxs_getMethod T.kf hso (looks_opaque X3 T.opq) (l₀ := cd.mro) (fun A Q E s k q => wpAny_bind ((looks_clsIn X3 hc) A _ E s k (wpAny_pure q))) rfl X3 hsup (I3.type.andThen (looks_subIn X3 T.sub)) (ks_ne X3 I3 hc) (by decide) ?_
  have hI3 : Looks (model prog w) h3 (isInstance (.ref (hp.objs.size + 1)) (.type B)) true := I3.type.andThen (looks_subIn X3 T.sub)
  have X4 : K.In (h3.push (kxs_mw initId (hp.objs.size + 1))) := X3.keeps fun b o e => Heap.get?_push_of_some _ e
  have hu : (h3.push (kxs_mw initId (hp.objs.size + 1))).get? h3.objs.size = some (kxs_mw initId (hp.objs.size + 1)) := Heap.get?_push_at rfl rfl
  have hx4 : (h3.push (kxs_mw initId (hp.objs.size + 1))).get? (hp.objs.size + 1) = some (excObj C hp.objs.size none .none) := Heap.get?_push_of_some _ hx3
  have k4 : ∀ b o, h₁.get? b = some o → (h3.push (kxs_mw initId (hp.objs.size + 1))).get? b = some o := fun b o e => Heap.get?_push_of_some _ (k3 b o e)
  generalize hh4 : h3.push (kxs_mw initId (hp.objs.size + 1)) = h4 at X4 hu hx4 k4 ⊢
  refine kxs_callWith (i := initId) (x := hp.objs.size + 1) rfl (evalArgs_plain ?_)
  refine spliced_cons (wpAny_Constant_str (k := j) (pos := p3) ?_)
  refine spliced_nil ⟨hu, ?_⟩
  refine mw_call T.fb X4 T.ini hx4 hu fun h5 k5 e5 => ?_
  have nL : h2.objs.size ≠ hp.objs.size + 1 := by omega
  have kp5 : ∀ b o, h₁.get? b = some o → b ≠ hp.objs.size + 1 → h5.get? b = some o := fun b o e hb => k5 b o hb (k4 b o e)
  have kh5 : ∀ b o, hp.get? b = some o → h5.get? b = some o := fun b o e => kp5 b o (k1 b o e) (Nat.ne_of_lt (Nat.lt_succ_of_lt (Heap.lt_size e)))
  have X5 : K.In h5 := X.keeps kh5
  have hn5 : h5.Ns h2.objs.size (fun y => [(("self" : Str), Value.ref (hp.objs.size + 1)), (f, v)].reverse.lookup y) := by
    obtain ⟨oL, es, ep, hL, r⟩ := hns
    exact ⟨oL, es, ep, kp5 _ _ hL nL, r⟩
  have sz5 : hp.objs.size ≤ h5.objs.size := Nat.le_trans (Nat.le_succ _) (Nat.le_of_lt (Heap.lt_size e5))
  refine ks_wpAt_execs_cons (wpAt_of_wpAny (plainObj_wpAny_Assign_Attribute ?_))
  refine wpAny_Name (wpAny_loadName_local (v := v) rfl n4 hn5 lkF ?_) hdb
  refine wpAny_Name (wpAny_loadName_local (v := .ref (hp.objs.size + 1)) rfl n3 hn5 lkS ?_) (by decide)
  refine set_plain (od := none) X5 ⟨e5, rfl, rfl, trivial⟩ T.sa (osaG T.sf X5 e5 T.ovr T.tak T.hd fun h6 tk6 dx k6 dn dne hx6 hn6 => ?_)
  refine wpAt_of_wpAny (wpAny_execs_nil ?_)
  refine ⟨rfl, hq h6 tk6 (hp.objs.size + 1) dx h4.objs.size (fun b o e => k6 b o (Nat.ne_of_lt (Nat.lt_succ_of_lt (Heap.lt_size e))) (kh5 b o e)) (Nat.le_succ _) (Nat.le_trans sz5 dn) dne hx6 hn6⟩
end
end EK

set_option Elab.async false
set_option linter.all false
set_option maxRecDepth 100000
set_option maxHeartbeats 4000000
namespace EK
open PySem L2 PySem.Spec PyProof.Rows
/-- an exception object of the class cls at a, its dict at d -/
def ExT (cls : Value) (d : Option Addr) (a : Addr) : HO := .ext fun h => ∃ (oe : Obj) (vs : Array Value), h.get? a = some oe ∧ Zc cls d oe ∧ oe.data = .fields vs
theorem exT_ok {P : Program} {w : World} {H : Hp} {h : Heap} {a : Addr} {cls : Value} {d : Option Addr} {oe : Obj} {vs : Array Value} (e : h.get? a = some oe) (z : Zc cls d oe) (q : oe.data = .fields vs) : ObjOk P w H h a (ExT cls d a) :=
  ⟨⟨oe, vs, e, z, q⟩, ⟨oe, e⟩, fun _ _ ⟨o, v, q, r⟩ k => ⟨o, v, k o q, r⟩⟩
theorem exT_at {P : Program} {w : World} {H : Hp} {h : Heap} {a : Addr} {cls : Value} {d : Option Addr} (hok : HOk P w H h) (he : H a = some (ExT cls d a)) : ∃ (oe : Obj) (vs : Array Value), h.get? a = some oe ∧ Zc cls d oe ∧ oe.data = .fields vs := by
  have x : ObjOk P w H h a (.ext fun h => ∃ (oe : Obj) (vs : Array Value), h.get? a = some oe ∧ Zc cls d oe ∧ oe.data = .fields vs) := hok a _ he
  exact x.1
section
variable {X : Cx} {pins : List (Addr × Obj)} {σ : L2.St} {H : Hp} {s : Shared}
theorem xd_ok {P : Program} {w : World} {h : Heap} {d : Addr} {f : Str} {v : V} {u : Value} (hn : h.Ns1 d (fun y => if y = f then some u else none)) (r : RelV v u) : ObjOk P w H h d (.xd [(f, v)]) :=
  ⟨_, hn, relO_put (fs := []) r fun g => True.intro⟩
/-- C(e): the exception and its field -/
theorem xmake_in {C : Addr} {f : Str} {B newId initId : String} {bmB : List Value} {k : Nat} {v : V} {u : Value} {Q : Value → Shared → Prop} {E : Value → Shared → Prop} (T : XC X.prog X.K C f B newId initId bmB) (hsup : X.mg "super" = none) (hr : Room (k + 1) X.A) (I : Inv X pins σ H s) (r : RelV v u)
    (h : ∀ (a d : Addr) (t1 : Addr) (G h' : Heap) (tk' : Nat), H a = none → H d = none → d ≠ a → Inv X pins σ (upd H d (.xd [(f, v)])) { s with heap := G, toks := tk' } → (∀ b o, G.get? b = some o → h'.get? b = some o) → G.get? a = none → (upd H d (.xd [(f, v)])) a = none →
      h'.get? a = some (PySem.W.excObj C t1 (some d) .none) → Q (.ref a) { s with heap := h', toks := tk' }) : wpAny (model X.prog X.w) X.A (call (.ref C) [u]) Q E s := by
  refine xmake T I.ok.mod hsup (fun b o e => (I.bs b o e).1) hr fun h' tk' a d t1 k ha hd hne he hn => ?_
  have na : H a = none := I.hok.fresh ha
  have nd : H d = none := I.hok.fresh hd
  obtain ⟨G, g1, g2⟩ := restrict h' fun b => decide (b ≠ a)
  have gk : ∀ b, b ≠ a → G.get? b = h'.get? b := fun b hb => g1 b (decide_eq_true hb)
  have ge : G.get? a = none := g2 a (by simp)
  have hG : ∀ b o, G.get? b = some o → h'.get? b = some o := fun b o e => by
    by_cases hb : b = a
    · rw [hb, ge] at e; cases e
    · rw [← gk b hb]; exact e
  have kG : ∀ b o, s.heap.get? b = some o → G.get? b = some o := fun b o e => by
    rw [gk b (Nat.ne_of_lt (Nat.lt_of_lt_of_le (Heap.lt_size e) ha))]
    exact k b o e
  have J := I.laid (t' := tk') (a := d) (o := .xd [(f, v)]) kG hd (xd_ok (hn.at fun o y => (gk d hne).trans y) r)
  exact h a d t1 G h' tk' na nd hne J hG ge (by rw [upd_ne (Ne.symm hne)]; exact na) he
theorem pmk_x {C : Addr} {f : Str} {B newId initId : String} {bmB : List Value} {k : Nat} {x : Str} {e : Expr} {te : TE} {p pos : Pos} (T : XC X.prog X.K C f B newId initId bmB) (hsup : X.mg "super" = none) (hr : Room (k + 1) X.A) (hg : Gl X x) (hm : X.mg x = some (.ref C)) (he : PE X e te)
    (hdb : (x == ("__debug__" : Str)) = false) (hs : starEach [e] X.env = (false, eval e X.env) :: starEach [] X.env) :
    PMk X (.Call (.Name x p) [e] [] pos) (fun σ H Q => te σ H fun v H1 => ∀ d, H1 d = none → Q (.ref C) (some d) (upd H1 d (.xd [(f, v)]))) := by
  intro pins s σ H Q I h
  refine wpAny_Call_Name_kw (ld_glob I hg hm ?_ hdb)
  refine PySem.W.callWith_K (h₀ := X.base) I.ok.mod.kin T.kC ?_ hs (by rfl)
  rw [hs]
  show wpAny _ _ (spliced ((false, eval e X.env) :: backTo pos (starEach [] X.env))) _ _ s
  refine Calls.spliced_cons (thn (he.run pins s σ H _ I h) fun u s1 ⟨v, H1, I1, r1, q1⟩ => ?_)
  refine Calls.spliced_nil ⟨I1.kIn, ?_⟩
  refine xmake_in T hsup hr I1 r1 fun a d t1 G h' tk' na nd hne J kG ge n2 ha => ?_
  exact ⟨a, _, _, { s1 with heap := G, toks := tk' }, _, .ref C, some d, rfl, J, kG, ge, ha, ⟨rfl, rfl⟩, rfl, rfl, n2, rfl, J.bare, raises_own T.exC T.tyC, q1 d nd⟩
/-- the exception as a value -/
theorem pe_mkx {C : Addr} {f : Str} {B newId initId : String} {bmB : List Value} {k : Nat} {x : Str} {e : Expr} {te : TE} {p pos : Pos} (T : XC X.prog X.K C f B newId initId bmB) (hsup : X.mg "super" = none) (hr : Room (k + 1) X.A) (hg : Gl X x) (hm : X.mg x = some (.ref C)) (he : PE X e te)
    (hdb : (x == ("__debug__" : Str)) = false) (hs : starEach [e] X.env = (false, eval e X.env) :: starEach [] X.env) :
    PE X (.Call (.Name x p) [e] [] pos) (fun σ H Q => te σ H fun v H1 => ∀ a d, H1 a = none → H1 d = none → d ≠ a → Q (.ref a) (upd (upd H1 d (.xd [(f, v)])) a (ExT (.ref C) (some d) a))) := by
  refine ⟨fun pins s σ H Q I h => ?_⟩
  refine wpAny_Call_Name_kw (ld_glob I hg hm ?_ hdb)
  refine PySem.W.callWith_K (h₀ := X.base) I.ok.mod.kin T.kC ?_ hs (by rfl)
  rw [hs]
  show wpAny _ _ (spliced ((false, eval e X.env) :: backTo pos (starEach [] X.env))) _ _ s
  refine Calls.spliced_cons (thn (he.run pins s σ H _ I h) fun u s1 ⟨v, H1, I1, r1, q1⟩ => ?_)
  refine Calls.spliced_nil ⟨I1.kIn, ?_⟩
  refine xmake_in T hsup hr I1 r1 fun a d t1 G h' tk' na nd hne J kG ge n2 ha => ?_
  have J2 := J.laidN (t' := tk') (a := a) (o := ExT (.ref C) (some d) a) kG ge n2 (exT_ok ha ⟨rfl, rfl⟩ rfl)
  exact ⟨.ref a, _, J2, rfl, q1 a d na nd hne⟩
/-- e.f -/
theorem pe_att {e : Expr} {te : TE} {pos : Pos} {n : Str} (he : PE X e te) (hb : attributeBase e n X.env (eval e X.env) = eval e X.env) :
    PE X (.Attribute e n pos) (fun σ H Q => te σ H fun x H1 => ∃ (a C dd : Addr) (fs : List (Str × V)) (v : V), x = .ref a ∧ XfC X.K C ∧ PySem.W.findIn X.K (.ref C) n = some none ∧ H1 a = some (ExT (.ref C) (some dd) a) ∧ H1 dd = some (.xd fs) ∧ fs.lookup n = some v ∧ Q v H1) := by
  refine ⟨fun pins s σ H Q I h => ?_⟩
  refine attr_of hb (thn (he.run pins s σ H _ I h) fun u s1 hh => ?_)
  obtain ⟨x, H1, I1, rx, a, C, dd, fs, v, ex, T, hno, ha, ea, l, q⟩ := hh
  subst ex
  obtain rfl : u = Value.ref a := rx
  obtain ⟨oe, vs, hoe, hz, hd⟩ := exT_at I1.hok ha
  have hx : ObjOk X.prog X.w H1 s1.heap dd (.xd fs) := I1.hok dd _ ea
  obtain ⟨mA, hns, hr⟩ := hx
  obtain ⟨od, ho, hl⟩ := lookIn_ns hns
  obtain ⟨u, hu, ru⟩ := RelO.some_of (v := v) (o := mA n) (by rw [← l]; exact hr n)
  have J : PySem.W.InstAt s1.heap a oe C (some od) := ⟨hoe, hz.1, by unfold PySem.W.notCls; rw [hd] <;> rfl, by rw [hz.2]; exact ho⟩
  exact HandSPX.exc_get I1.kIn J T.ga T.gg T.exC (PySem.W.findObj_own T.hdC hno rfl (by rw [hl, hu])) (handed_of ru) ⟨v, H1, I1.tok _, ru, q⟩
/-- isinstance(e, c) of an exception -/
def rIsX (K : PySem.W.Frag) : List V → Hp → VK → Prop := fun xs H Q => ∃ (a D : Addr) (d : Option Addr) (c : V) (cv : Value) (b : Bool), xs = [.ref a, c] ∧ ExcC K D ∧ H a = some (ExT (.ref D) d a) ∧ (∀ dd, d = some dd → ∃ fs, H dd = some (.xd fs)) ∧ (∀ u, RelV c u → u = cv) ∧ PySem.W.kitOne K (.ref D) cv = some b ∧ Q (.bl b) H
theorem call_isX : CallR X (.builtin "isinstance") (rIsX X.K) := by
  intro pins s σ H xs us Q I r h
  obtain ⟨a, D, d, c, cv, b, rfl, T, ha, hd, hcv, e, q⟩ := h
  cases r with
  | cons rx rr =>
    cases rr with
    | cons rt rr =>
      cases rr
      cases rx
      have ec := hcv _ rt
      subst ec
      obtain ⟨oe, vs, hoe, hz, hf⟩ := exT_at I.hok ha
      obtain ⟨od, J⟩ : ∃ od, PySem.W.InstAt s.heap a oe D od := by
        cases d with
        | none => exact ⟨none, hoe, hz.1, by unfold PySem.W.notCls; rw [hf] <;> rfl, by rw [hz.2]; trivial⟩
        | some dd =>
          obtain ⟨fs, ed⟩ := hd dd rfl
          have hx : ObjOk X.prog X.w H s.heap dd (.xd fs) := I.hok dd _ ed
          obtain ⟨mA, hns, hr⟩ := hx
          obtain ⟨od, ho, hl⟩ := lookIn_ns hns
          exact ⟨some od, hoe, hz.1, by unfold PySem.W.notCls; rw [hf] <;> rfl, by rw [hz.2]; exact ho⟩
      have hcl : (PySem.W.clsIn X.K D).isSome = true := by
        obtain ⟨cd, hc, _⟩ := PySem.W.any_some T.hd
        rw [hc]; rfl
      exact PySem.W.kia_one (PySem.W.kitx_exc hcl T.hg T.hk T.hs T.ha T.hn T.ht T.hm) I.kIn J e (fun z => nomatch z) fun tk => ⟨.bl b, H, I.kept (t' := tk) fun _ _ z => z, rfl, q⟩
end
end EK

set_option Elab.async false
set_option linter.all false
set_option maxRecDepth 100000
set_option maxHeartbeats 4000000
namespace EK
open PySem L2 PySem.Spec PyProof.Rows
theorem flying_keeps {B h h' : Heap} {l : List Env} {a : Addr} {Z : Obj → Prop} (k : ∀ b o, h.get? b = some o → h'.get? b = some o) (x : HandSPX.FlyingZ B l a Z h) : HandSPX.FlyingZ B l a Z h' := by
  obtain ⟨k1, k2, k3, oe, vs, T, oT, ts, he, hz, hd, h1, hn, hT, hg, hdT, h3⟩ := x
  exact ⟨fun b o e => k b o (k1 b o e), k2, Heap.FunFrames.of_keeps (fun b o e _ => ⟨o, k b o e, rfl⟩) k3, oe, vs, T, oT, ts, k _ _ he, hz, hd, h1, hn, hT, k _ _ hg, hdT, h3⟩
section
variable {X : Cx} {pins : List (Addr × Obj)} {σ : L2.St} {H : Hp} {s : Shared}
theorem suiteI (I : Inv X pins σ H s) (a : Addr) : Inv (X.suite a (X.pn ++ pins)) [] σ H s :=
  ⟨I.ok.suite _ _, I.os, I.bare, I.base, I.loc, I.cell, I.free, I.freeC, fun p hp => I.pin p (by rw [List.append_nil] at hp; exact hp), I.hok, I.len⟩
theorem unsuiteI {a : Addr} {pn' : List (Addr × Obj)} (I : Inv (X.suite a (X.pn ++ pins)) pn' σ H s) (ok : X.Ok) : Inv X pins σ H s :=
  ⟨ok, I.os, I.bare, I.base, I.loc, I.cell, I.free, I.freeC, fun p hp => I.pin p (List.mem_append_left _ hp), I.hok, I.len⟩
/-- on the ground, and known from now on -/
theorem landedT {B : Heap} {cls : Value} {d : Option Addr} {a : Addr} {s' sI : Shared} {h4 : Heap} (J : Inv X pins σ H sI) (nb : ∀ b o, sI.heap.get? b = some o → b ∉ frs X.stack → B.get? b = some o) (fl : HandSPX.FlyingZ B X.stack a (Zc cls d) h4)
    (up : sI.heap.UpToSlots h4) (os : s'.os = sI.os) (ag : AllBare s'.gens) (na : H a = none) : Inv X pins σ (upd H a (ExT cls d a)) { s' with heap := h4 } := by
  obtain ⟨oe, vs, he, hz, hd⟩ := fl.there
  have nfr : a ∉ frs X.stack := fun hm => by
    obtain ⟨_, o', e', hnf⟩ := fl.2.2.1.mem hm
    rw [he] at e'; cases e'
    exact hnf _ hd
  have nI : sI.heap.get? a = none := by
    cases q : sI.heap.get? a with
    | none => rfl
    | some o =>
      have z := nb a o q nfr
      rw [fl.2.1] at z
      cases z
  obtain ⟨G, g1, g2⟩ := restrict h4 fun b => decide (b ≠ a)
  have gk : ∀ b, b ≠ a → G.get? b = h4.get? b := fun b hb => g1 b (decide_eq_true hb)
  have ge : G.get? a = none := g2 a (by simp)
  have hG : ∀ b o, G.get? b = some o → h4.get? b = some o := fun b o e => by
    by_cases hb : b = a
    · rw [hb, ge] at e; cases e
    · rw [← gk b hb]; exact e
  have st : B.StaysIn G := fun b o e => by
    rw [gk b (fun z => by rw [z, fl.2.1] at e; cases e)]
    exact fl.1 b o e
  have upG : sI.heap.UpToSlots G := fun b o e hnf => by
    obtain ⟨sl, q⟩ := up b o e hnf
    exact ⟨sl, by rw [gk b (fun z => by rw [z, nI] at e; cases e)]; exact q⟩
  have J1 : Inv X pins σ H { s' with heap := G } := J.landed nb st upG os ag
  exact J1.laidN (t' := s'.toks) (a := a) (o := ExT cls d a) hG ge na (exT_ok he hz hd)
end
/-- what the clause 'except (x1, x2, x3) as n' wishes of an exception of the body: slot i is n's -/
def wKeep (K : PySem.W.Frag) (cs : List Value) (i : Nat) (ts : Addr → TS) (Wout : WX) (D : Ends) : WX := fun cls d σ H =>
  ∃ b, PySem.W.exmAny K cls cs = some b ∧ (b = true → ∀ a, H a = none → ts a { nx := fun σ' H' => D.nx (σ'.set i none) H', rt := D.rt, bk := fun σ' H' => D.bk (σ'.set i none) H', ct := fun σ' H' => D.ct (σ'.set i none) H' } (σ.set i (some (.ref a))) (upd H a (ExT cls d a))) ∧
    (b = false → Wout cls d σ H)
section
variable {X : Cx} {x1 x2 x3 n : Str} {c1 c2 c3 : Addr} {i : Nat} {body suite : List Stmt} {b₀ : Stmt} {q1 q2 q3 q4 pos pos' : Pos} {kk : Nat} {tb : WX → TS} {ts : Addr → TS} {Wout : WX}
theorem ps_try_keep (hs : X.stack = X.env :: X.outer) (hf : X.env.frame = some X.env.locals) (hN : X.N.Nodup) (hi : X.N[i]? = some n) (hln : X.env.kindOf n = some .local)
    (g1 : Gl X x1) (m1 : X.mg x1 = some (.ref c1)) (d1 : (x1 == ("__debug__" : Str)) = false) (g2 : Gl X x2) (m2 : X.mg x2 = some (.ref c2)) (d2 : (x2 == ("__debug__" : Str)) = false) (g3 : Gl X x3) (m3 : X.mg x3 = some (.ref c3)) (d3 : (x3 == ("__debug__" : Str)) = false) (tk : Takes X Wout)
    (hb : ∀ (W : WX) (pn : List (Addr × Obj)) (xe : Value → Shared → Prop), Takes (X.tr pn xe) W → PassesOwn (model X.prog X.w) X.A X.env xe → PSs (X.tr pn xe) body (tb W))
    (hsu : ∀ (a : Addr) (pn : List (Addr × Obj)), PSs (X.suite a pn) (b₀ :: suite) (ts a)) :
    PS X (.Try body [.ExceptHandler (some (.Tuple [.Name x1 q1, .Name x2 q2, .Name x3 q3] kk q4)) (some n) (b₀ :: suite) pos'] [] [] pos) (fun D σ H => tb (wKeep X.K [.ref c1, .ref c2, .ref c3] i ts Wout D) D σ H) := by
  refine ⟨fun pins s σ H D I h => ?_⟩
  have ok := I.ok
  have hfr : X.A.frames = some (X.env :: X.outer) := by rw [ok.frames, hs]
  have hloc : Loc X.env.scope n := .inl hln
  refine wpAny_Try_except ?_
  refine wpAny_mono ((hb (wKeep X.K [.ref c1, .ref c2, .ref c3] i ts Wout D) (X.pn ++ pins) (fun e s₁ => wpAny (model X.prog X.w) X.A (noteFrame e X.env) (fun _ s₂ => wpAny (model X.prog X.w) X.A (setFlight e none) (fun _ s₃ =>
    wpAny (model X.prog X.w) X.A (handleBy e X.env [.ExceptHandler (some (.Tuple [.Name x1 q1, .Name x2 q2, .Name x3 q3] kk q4)) (some n) (b₀ :: suite) pos']) (SP X pins D) X.xe s₃) X.xe s₂) X.xe s₁) (fun u s' xx => ?_) PassesOwn.looking).run [] s σ H D (I.toTry _) h) (fun f s1 hsp => ?_) (fun e s1 he => he)
  · -- the catch
    obtain ⟨a, B, sI, pins', σ', H', cls, d, rfl, J', nb, up, sky, na, os, ag, b, hb1, hyes, hno⟩ := xx
    have J : Inv X pins σ' H' sI := J'.ofTry ok
    have sky' : Sky B (X.env :: X.outer) a (Zc cls d) X.env.locals s'.heap := by rw [← hs]; exact sky
    show wpAny (model X.prog X.w) X.A (noteFrame (.ref a) X.env) _ _ _
    refine Sky.land Zc.steady hfr hf sky' fun h3 fl3 up3 => ?_
    have J3 : Inv X pins σ' H' { s' with heap := h3 } := J.landed nb fl3.1 (up.trans up3) os ag
    obtain ⟨oe3, vs3, he3, hz3, hd3⟩ := fl3.there
    have S3 := suiteI J3 a
    refine wpAny_handleBy_cons (codeAny_handlers_test ?_) (by intro q; cases q)
    have pk : ∀ b o, h3.get? b = some o → (h3.push { cls := .type "tuple", data := .seq [Value.ref c1, .ref c2, .ref c3].toArray }).get? b = some o := fun b o e => Heap.get?_push_of_some _ e
    refine wpAny_Tuple_spliced ?_
    show wpAny _ _ (spliced ((false, eval (.Name x1 q1) X.env) :: (false, eval (.Name x2 q2) X.env) :: (false, eval (.Name x3 q3) X.env) :: [])) _ _ _
    refine Calls.spliced_cons (ld_glob (X := X.suite a (X.pn ++ pins)) S3 g1 m1 ?_ d1)
    refine Calls.spliced_cons (ld_glob (X := X.suite a (X.pn ++ pins)) S3 g2 m2 ?_ d2)
    refine Calls.spliced_cons (ld_glob (X := X.suite a (X.pn ++ pins)) S3 g3 m3 ?_ d3)
    refine Calls.spliced_nil ⟨by show 3 ≤ sizeLine; rw [sizeLine_eq]; omega, ?_⟩
    have fl3' := flying_keeps pk fl3
    have LT : PySem.W.Looks (model X.prog X.w) (h3.push { cls := .type "tuple", data := .seq [Value.ref c1, .ref c2, .ref c3].toArray }) (typeOf (.ref a)) cls := fun A Q E s k q => wpAny_typeOf_ref (k _ _ (pk _ _ he3)) (by rw [hz3.1]; exact q)
    have LM := PySem.W.exm_tup3 (M := model X.prog X.w) (J3.kIn.keeps pk) LT (Heap.get?_push_size _ rfl) hb1
    have up3' : s'.heap.UpToSlots (h3.push { cls := .type "tuple", data := .seq [Value.ref c1, .ref c2, .ref c3].toArray }) := up3.trans (Heap.UpToSlots.of_keeps pk)
    refine LM.here ?_
    cases b with
    | true =>
      refine codeAny_handlers_suite_as ?_
      refine HandSPX.lands_againZ fl3' fun h4 fl4 up4 => ?_
      have J4 : Inv X pins σ' (upd H' a (ExT cls d a)) { s' with heap := h4 } := landedT J nb (by rw [hs]; exact fl4) ((up.trans up3').trans up4) os ag na
      have S4 := suiteI J4 a
      refine store_ok (X := X.suite a (X.pn ++ pins)) (v := .ref a) S4 hN hi hloc rfl (fun s5 S5 => ?_) (.inr hln)
      refine wpAny_mono ((hsu a (X.pn ++ pins)).run [] s5 _ _ _ S5 (hyes rfl a na)) (fun f s6 hsp => ?_) (fun _ _ z => False.elim z)
      have end_ : ∀ {σ6 : L2.St} {H6 : Hp} {Q : Shared → Prop}, Inv (X.suite a (X.pn ++ pins)) [] σ6 H6 s6 → (∀ s7, Inv X pins (σ6.set i none) H6 s7 → Q s7) →
          wpAny (model X.prog X.w) X.A (do bindName X.env n .none; unbindBehindTheSuite X.env n pos') (fun _ s7 => Q s7) X.xe s6 := fun {σ6 H6 Q} S6 hq => gone_ok (unsuiteI S6 ok) hN hi hln hq
      cases f with
      | next =>
        obtain ⟨σ6, H6, S6, q6⟩ := hsp
        exact end_ S6 fun s7 J7 => ⟨_, _, J7, q6⟩
      | brk =>
        obtain ⟨σ6, H6, S6, q6⟩ := hsp
        exact end_ S6 fun s7 J7 => ⟨_, _, J7, q6⟩
      | cont =>
        obtain ⟨σ6, H6, S6, q6⟩ := hsp
        exact end_ S6 fun s7 J7 => ⟨_, _, J7, q6⟩
      | ret u =>
        obtain ⟨v6, σ6, H6, S6, r6, q6⟩ := hsp
        exact end_ S6 fun s7 J7 => ⟨_, _, _, J7, r6, q6⟩
    | false =>
      show wpAny _ X.A (handleBy (.ref a) X.env []) _ _ _
      refine wpAny_handleBy_nil ?_
      obtain ⟨k1, k2, k3, oe, vs, T, oT, ts', he, hz, hd, h1, hr⟩ := id fl3'
      unfold PySem.passOn
      refine wpAny_bind (wpAny_field he hd h1 ?_)
      rw [if_neg (show ¬ ((Value.ref T == Value.none) = true) from by simp)]
      have fin : wpAny (model X.prog X.w) X.A (setFlight (.ref a) X.env.frame) (fun _ s4 => wpAny (model X.prog X.w) X.A (throw (.ref a) : Sem Flow) (SP X pins D) X.xe s4) X.xe { s' with heap := h3.push { cls := .type "tuple", data := .seq [Value.ref c1, .ref c2, .ref c3].toArray } } := by
        rw [hf]
        refine HandSPX.setFlight_upZ fl3' fun h4 hh4 up4 => wpAny_throw (tk _ _ ?_)
        exact ⟨a, B, sI, pins, σ', H', cls, d, rfl, J, nb, (up.trans up3').trans up4, .inr (.inr (by rw [hs]; exact hh4)), na, os, ag, hno rfl⟩
      first
        | exact wpAny_bind (wpAny_pure (wpAny_bind fin))
        | exact wpAny_bind fin
  · cases f with
    | next =>
      obtain ⟨σ', H', J', q⟩ := hsp
      exact wpAny_execs_nil ⟨σ', H', J'.ofTry ok, q⟩
    | brk =>
      obtain ⟨σ', H', J', q⟩ := hsp
      exact ⟨σ', H', J'.ofTry ok, q⟩
    | cont =>
      obtain ⟨σ', H', J', q⟩ := hsp
      exact ⟨σ', H', J'.ofTry ok, q⟩
    | ret u =>
      obtain ⟨v, σ', H', J', r, q⟩ := hsp
      exact ⟨v, σ', H', J'.ofTry ok, r, q⟩
end
end EK

set_option Elab.async false
set_option linter.all false
set_option maxRecDepth 100000
set_option maxHeartbeats 4000000
namespace EK
open PySem L2 PySem.Spec PyProof.Rows PySem.W PySem.Calls LamX
/-! ### a lambda, without a parameter or with one that has a default -/
abbrev lamF (qual : Str) (params : Arguments) (body : Expr) (scope : Scope) (cl : List (Str × Addr)) (dV pm cdv ct : Value) : FuncData :=
  { name := "<lambda>", qualname := qual, params, body := .expr body, scope, globals := mainGlobals, closure := cl, defaults := dV, kwdefaults := .none, doc := .none, pyModule := pm, annotations := none, code := cdv, closureTuple := ct, builtins := builtinsNs }
abbrev lamO (qual : Str) (params : Arguments) (body : Expr) (scope : Scope) (clos : List (Str × Addr)) (dV pm : Value) (c' : Addr) (ctv : Value) : Obj :=
  { cls := .type "function", data := .func (lamF qual params body scope clos dV pm (.ref c') ctv) }
section
variable {M : Model} {A : Around} {E : Value → Shared → Prop} {s : Shared} {qual : Str} {params : Arguments} {body : Expr} {scope : Scope} {env : Env} {c P : Addr} {ps : Array Value} {pos : Pos} {firstLine : Nat} {mg : Str → Option Value}
  {clos : List (Str × Addr)} {Q : Value → Shared → Prop} {dV : Value}
theorem lam_tail (hcl : closureFor scope env = pure clos) (hge0 : env.globals = mainGlobals) (hg : s.heap.Ns mainGlobals mg) (hcode : env.code = .ref c) (C : CodeHd s.heap c P) (hP : s.heap.get? P = some (tabObj ps)) (ht : TriplesOk ps.toList)
    (hnf : codeAmong pos ps.toList = none) (hgP : mainGlobals ≠ P) (hb : s.heap.BuiltinsAt mg P)
    (h : ∀ c' ctv h' tk, Heap.ExtBut P s.heap h' → s.heap.objs.size ≤ c' → c' < h'.objs.size → h'.CodeRec (.ref c') qual → h'.get? P = some (tabObj (ps ++ #[rawInt pos.line, rawInt pos.col, .ref c'])) →
      Q (.ref h'.objs.size) { s with heap := h'.push (lamO qual params body scope clos dV ((mg "__name__").getD .none) c' ctv), toks := tk }) :
    wpAny M A (makeTail "<lambda>" qual params (.expr body) scope env dV .none none pos firstLine) Q E s := by
  obtain ⟨bm, ob, hbm, hne0, _, hneP, hbo, hcls, hdict, hdata⟩ := hb
  unfold makeTail
  rw [hcl, hge0]
  refine wpAny_bind (wpAny_pure ?_)
  cases clos with
  | nil =>
    simp only [List.isEmpty_nil, if_true]
    refine wpAny_bind (wpAny_pure ?_)
    refine wpAny_bind (wpAny_functionCodeX hcode (C.code hP ht) (C.tab hP) hnf fun c' h' tk hx hge hlt _ hrec htb _ => ?_)
    have hg' := hg.extBut hx hgP
    refine wpAny_bind (wpAny_builtinsFor hg' hbm hne0 (hx _ _ hneP hbo) hcls hdict hdata ?_)
    refine wpAny_bind (wpAny_nsGet hg' ?_)
    exact wpAny_bind (wpAny_pure (wpAny_newObj_type (h c' .none h' tk hx hge hlt hrec htb.2) (by size_fits)))
  | cons q r =>
    simp only [List.isEmpty_cons, Bool.false_eq_true, if_false]
    refine wpAny_bind (wpAny_newTextTuple ?_)
    refine wpAny_bind (wpAny_functionCodeX hcode ((C.keeps fun b o e => Heap.get?_push_of_some _ e).code (Heap.get?_push_of_some _ hP) ht) ((C.keeps fun b o e => Heap.get?_push_of_some _ e).tab (Heap.get?_push_of_some _ hP)) hnf fun c' h' tk hx hge hlt _ hrec htb _ => ?_)
    have hg' := (hg.push _).extBut hx hgP
    have hx' : Heap.ExtBut P s.heap h' := fun b o hb' e => hx b o hb' (Heap.get?_push_of_some _ e)
    have hge' : s.heap.objs.size ≤ c' := Nat.le_trans (by rw [Heap.size_push]; omega) hge
    refine wpAny_bind (wpAny_builtinsFor hg' hbm hne0 (hx' _ _ hneP hbo) hcls hdict hdata ?_)
    refine wpAny_bind (wpAny_nsGet hg' ?_)
    exact wpAny_bind (wpAny_pure (wpAny_newObj_type (h c' _ h' tk hx' hge' hlt hrec htb.2) (by size_fits)))
theorem lam_tailHit {cv : Value} (hcl : closureFor scope env = pure clos) (hge0 : env.globals = mainGlobals) (hg : s.heap.Ns mainGlobals mg) (hcode : env.code = .ref c) (C : CodeHd s.heap c P) (hP : s.heap.get? P = some (tabObj ps)) (ht : TriplesOk ps.toList)
    (hf : codeAmong pos ps.toList = some cv) (hb : s.heap.BuiltinsAt mg P)
    (h : ∀ (ctv : Value) (h' : Heap) (tk : Tok), (∀ b o, s.heap.get? b = some o → h'.get? b = some o) → s.heap.objs.size ≤ h'.objs.size →
      Q (.ref h'.objs.size) { s with heap := h'.push { cls := .type "function", data := .func (lamF qual params body scope clos dV ((mg "__name__").getD .none) cv ctv) }, toks := tk }) :
    wpAny M A (makeTail "<lambda>" qual params (.expr body) scope env dV .none none pos firstLine) Q E s := by
  obtain ⟨bm, ob, hbm, hne0, _, hneP, hbo, hcls, hdict, hdata⟩ := hb
  unfold makeTail
  rw [hcl, hge0]
  refine wpAny_bind (wpAny_pure ?_)
  cases clos with
  | nil =>
    simp only [List.isEmpty_nil, if_true]
    refine wpAny_bind (wpAny_pure ?_)
    refine wpAny_bind (wpAny_functionCode_hit hcode (C.code hP ht) hf ?_)
    refine wpAny_bind (wpAny_builtinsFor hg hbm hne0 hbo hcls hdict hdata ?_)
    refine wpAny_bind (wpAny_nsGet hg ?_)
    exact wpAny_bind (wpAny_pure (wpAny_newObj_type (h .none s.heap s.toks (fun _ _ e => e) (Nat.le_refl _)) (by size_fits)))
  | cons q r =>
    simp only [List.isEmpty_cons, Bool.false_eq_true, if_false]
    refine wpAny_bind (wpAny_newTextTuple ?_)
    refine wpAny_bind (wpAny_functionCode_hit hcode ((C.keeps fun b o e => Heap.get?_push_of_some _ e).code (Heap.get?_push_of_some _ hP) ht) hf ?_)
    refine wpAny_bind (wpAny_builtinsFor (hg.push _) hbm hne0 (Heap.get?_push_of_some _ hbo) hcls hdict hdata ?_)
    refine wpAny_bind (wpAny_nsGet (hg.push _) ?_)
    have hsz : ∀ oT : Obj, s.heap.objs.size ≤ (s.heap.push oT).objs.size := fun oT => by rw [Heap.size_push]; omega
    exact wpAny_bind (wpAny_pure (wpAny_newObj_type (h _ _ s.toks (fun b o e => Heap.get?_push_of_some _ e) (hsz _)) (by size_fits)))
end
/-- the parameters: none, or _law_a=0 -/
def lparB (ls : Bool) (p : Arguments) : Bool := match ls, p with
  | false, ⟨[], [], none, [], [], none, []⟩ => true
  | true, ⟨[], [⟨x, none, _⟩], none, [], [], none, [.Constant (.int 0) _ _]⟩ => decide (x = ("_law_a" : Str))
  | _, _ => false
/-- the default's tuple -/
def DflAt (ls : Bool) (X : Cx) (H : Hp) (h : Heap) (dV : Value) : Prop := match ls with
  | false => dV = .none
  | true => ∃ (dt : Addr) (t : Tok), dV = .ref dt ∧ h.get? dt = some { cls := .type "tuple", data := .seq #[.int 0 t] } ∧ H dt = none ∧ dt ∉ frs X.stack
/-- the table at P: each code object that it tells bears the name q, and Z holds of it -/
def TabZ (H : Hp) (P : Addr) (q : Str) (Z : Addr → Prop) : Prop := ∃ ps : Array Value, H P = some (.tbl ps) ∧ TriplesOk ps.toList ∧ ∀ (pos : Pos) (cv : Value), codeAmong pos ps.toList = some cv → ∃ c, cv = .ref c ∧ H c = some (CodeO c q) ∧ Z c
section
variable {X : Cx} {pins : List (Addr × Obj)} {σ : L2.St} {H : Hp} {s : Shared} {Z : Addr → Prop}
theorem nofr (I : Inv X pins σ H s) : ∀ f, s.heap.objs.size ≤ f → f ∉ frs X.stack := fun f hf z => by
  rcases List.mem_cons.mp (I.stkSub _ z) with e | e
  · have h1 := I.lt
    rw [← e] at h1
    exact Nat.lt_irrefl _ (Nat.lt_of_lt_of_le h1 hf)
  · exact I.nofs hf e
/-- the part behind the defaults -/
theorem lam_mk0 {c P : Addr} {params : Arguments} {body : Expr} {scope : Scope} {pos : Pos} {dV : Value} {E : Value → Shared → Prop} {Q : Value → Shared → Prop} (I : Inv X pins σ H s) (TB : TabB X.base X.mg c P) (hcode : X.env.code = .ref c)
    (hT : TabZ H P (X.env.qual ++ "<lambda>") Z) (hZ : ∀ c, H c = none → Z c) (hfree : ∀ y ∈ scope.names, y.2 = .free → ∃ c, X.env.cells.lookup y.1 = some c)
    (h : ∀ (f c' : Addr) (pm ctv : Value) (H1 : Hp) (s' : Shared), Inv X pins σ H1 s' → (∀ b o, b ≠ P → H b = some o → H1 b = some o) → (∀ b, s.heap.objs.size > b → H b = none → H1 b = none) → TabZ H1 P (X.env.qual ++ "<lambda>") Z → (∀ b o, b ≠ P → s.heap.get? b = some o → s'.heap.get? b = some o) →
      s'.heap.get? f = some (lamO (X.env.qual ++ "<lambda>") params body scope (cloFrom X.env.cells scope.names []) dV pm c' ctv) → H1 f = none → f ∉ frs X.stack → H1 c' = some (CodeO c' (X.env.qual ++ "<lambda>")) → Z c' → Q (.ref f) s') :
    wpAny (model X.prog X.w) X.A (makeTail "<lambda>" (X.env.qual ++ "<lambda>") params (.expr body) scope X.env dV .none none pos pos.line) Q E s := by
  obtain ⟨ps, hP, ht, ha⟩ := hT
  have bP : s.heap.BuiltinsAt X.mg P := TB.bm.keeps I.bk
  have hP' : s.heap.get? P = some { cls := .none, data := .fields ps } := I.hok P _ hP
  cases hc : codeAmong pos ps.toList with
  | none =>
    refine lam_tail (mg := X.mg) (c := c) (P := P) (ps := ps) (closure_ok hfree) I.ok.glob (I.mod.glob.keeps I.bk) hcode (TB.code.keeps I.bk) hP' ht hc TB.gP bP fun c' ctv h' tk hx hge hlt hrec htb => ?_
    obtain ⟨c2, oc, vs, t, e2, hoc, hd, hv⟩ := hrec
    cases e2
    have hsz : s.heap.objs.size ≤ h'.objs.size := Nat.le_trans hge (Nat.le_of_lt hlt)
    have nC : H c' = none := I.hok.fresh hge
    have I1 := inv_table (t' := tk) (more := #[rawInt pos.line, rawInt pos.col, .ref c']) (h' := h'.push (lamO (X.env.qual ++ "<lambda>") params body scope (cloFrom X.env.cells scope.names []) dV ((X.mg "__name__").getD .none) c' ctv)) I hP
      (fun b o hb e => Heap.get?_push_of_some _ (hx b o hb e)) (Heap.get?_push_of_some _ htb) hge ⟨oc, vs, t, Heap.get?_push_of_some _ hoc, hd, hv⟩
    have eL : (ps ++ #[rawInt pos.line, rawInt pos.col, .ref c']).toList = ps.toList ++ [rawInt pos.line, rawInt pos.col, .ref c'] := by simp
    have kp : ∀ b o, b ≠ P → H b = some o → upd (upd H P (.tbl (ps ++ #[rawInt pos.line, rawInt pos.col, .ref c']))) c' (CodeO c' (X.env.qual ++ "<lambda>")) b = some o := fun b o hb e => by
      rw [upd_ne (ne_of_none e nC), upd_ne hb]
      exact e
    refine h h'.objs.size c' ((X.mg "__name__").getD .none) ctv _ _ I1 kp (fun b hb e => ?_) ?_ (fun b o hb e => Heap.get?_push_of_some _ (hx b o hb e)) (Heap.get?_push_size _ rfl) ?_ (nofr I _ hsz) upd_same (hZ _ nC)
    · rw [upd_ne (Nat.ne_of_lt (Nat.lt_of_lt_of_le hb hge)), upd_ne (fun z => by rw [z, hP] at e; cases e)]
      exact e
    · refine ⟨_, by rw [upd_ne (ne_of_none hP nC), upd_same], by rw [eL]; exact PySem.TriplesOk_snoc _ _ _ _ ht, fun p' cv hcv => ?_⟩
      rw [eL] at hcv
      rcases among_app _ ht hcv with z | z
      · obtain ⟨c0, e1, e2, e3⟩ := ha p' cv z
        exact ⟨c0, e1, kp _ _ (fun z => by rw [z, hP] at e2; exact codeO_ne ps (Option.some.inj e2).symm) e2, e3⟩
      · exact ⟨c', z, upd_same, hZ _ nC⟩
    · have n1 : h'.objs.size ≠ c' := Nat.ne_of_gt hlt
      have n2 : h'.objs.size ≠ P := Nat.ne_of_gt (Nat.lt_of_lt_of_le (Heap.lt_size hP') hsz)
      rw [upd_ne n1, upd_ne n2]
      exact I.hok.fresh hsz
  | some cv =>
    obtain ⟨c', e, hco, hzc⟩ := ha pos cv hc
    subst e
    refine lam_tailHit (mg := X.mg) (c := c) (P := P) (ps := ps) (closure_ok hfree) I.ok.glob (I.mod.glob.keeps I.bk) hcode (TB.code.keeps I.bk) hP' ht hc bP fun ctv h' tk hx hsz => ?_
    have I1 : Inv X pins σ H { s with heap := h'.push (lamO (X.env.qual ++ "<lambda>") params body scope (cloFrom X.env.cells scope.names []) dV ((X.mg "__name__").getD .none) c' ctv), toks := tk } := I.kept fun b o e => Heap.get?_push_of_some _ (hx b o e)
    exact h h'.objs.size c' ((X.mg "__name__").getD .none) ctv H _ I1 (fun _ _ _ e => e) (fun _ _ e => e) ⟨ps, hP, ht, ha⟩ (fun b o _ e => Heap.get?_push_of_some _ (hx b o e)) (Heap.get?_push_size _ rfl) (I.hok.fresh hsz) (nofr I _ hsz) hco hzc
theorem lam_mk {c P : Addr} {params : Arguments} {body : Expr} {scope : Scope} {pos : Pos} {ls : Bool} {E : Value → Shared → Prop} {Q : Value → Shared → Prop} (I : Inv X pins σ H s) (TB : TabB X.base X.mg c P) (hcode : X.env.code = .ref c)
    (hT : TabZ H P (X.env.qual ++ "<lambda>") Z) (hZ : ∀ c, H c = none → Z c) (hp : lparB ls params = true) (hfree : ∀ y ∈ scope.names, y.2 = .free → ∃ c, X.env.cells.lookup y.1 = some c)
    (h : ∀ (f c' : Addr) (dV pm ctv : Value) (H1 : Hp) (s' : Shared), Inv X pins σ H1 s' → (∀ b o, b ≠ P → H b = some o → H1 b = some o) → TabZ H1 P (X.env.qual ++ "<lambda>") Z → DflAt ls X H1 s'.heap dV →
      s'.heap.get? f = some (lamO (X.env.qual ++ "<lambda>") params body scope (cloFrom X.env.cells scope.names []) dV pm c' ctv) → H1 f = none → f ∉ frs X.stack → H1 c' = some (CodeO c' (X.env.qual ++ "<lambda>")) → Z c' → Q (.ref f) s') :
    wpAny (model X.prog X.w) X.A (eval (.Lambda params body scope pos) X.env) Q E s := by
  unfold lparB at hp
  rw [arm_eval_Lambda]
  split at hp
  · show wpAny _ _ (do let dv ← evalAll []; let kdv ← holding dv (evalAllOpt []); makeFunction "<lambda>" (X.env.qual ++ "<lambda>") _ (.expr body) scope X.env dv kdv [] pos pos.line) Q E s
    refine wpAny_bind (wpAny_pure (wpAny_bind (wpAny_holding (wpAny_pure ?_))))
    rw [makeFunction_eq]
    simp only [List.zip_nil_right, List.filterMap_nil, List.isEmpty_nil, if_true, pure_bind]
    exact lam_mk0 I TB hcode hT hZ hfree fun f c' pm ctv H1 s' I1 kp _ t1 _ hf hfn hfr hco hz => h f c' .none pm ctv H1 s' I1 kp t1 rfl hf hfn hfr hco hz
  · rename_i x p0 k0 p1
    show wpAny _ _ (do let dv ← evalAll [eval (.Constant (.int 0) k0 p1) X.env]; let kdv ← holding dv (evalAllOpt []); makeFunction "<lambda>" (X.env.qual ++ "<lambda>") _ (.expr body) scope X.env dv kdv [] pos pos.line) Q E s
    refine wpAny_bind (wpAny_bind (wpAny_Constant_int (wpAny_bind (wpAny_holding (wpAny_pure (wpAny_pure ?_))))))
    refine wpAny_bind (wpAny_holding (wpAny_pure ?_))
    rw [makeFunction_eq]
    simp only [List.zip_nil_right, List.filterMap_nil, List.isEmpty_nil, List.isEmpty_cons, if_true, pure_bind, Bool.false_eq_true, if_false]
    refine wpAny_bind (wpAny_newTextTuple ?_)
    have kpush : ∀ b o, s.heap.get? b = some o → (s.heap.push { cls := .type "tuple", data := .seq [Value.int 0 s.toks].toArray }).get? b = some o := fun b o e => Heap.get?_push_of_some _ e
    have I' : Inv X pins σ H { s with heap := s.heap.push { cls := .type "tuple", data := .seq [Value.int 0 s.toks].toArray }, toks := s.toks + 1 } := I.kept kpush
    have hP : ∃ ps, H P = some (.tbl ps) := ⟨_, hT.choose_spec.1⟩
    refine lam_mk0 I' TB hcode hT hZ hfree fun f c' pm ctv H1 s' I1 kp fr t1 kh hf hfn hfr hco hz => h f c' _ pm ctv H1 s' I1 kp t1 ⟨s.heap.objs.size, s.toks, rfl, ?_, ?_, nofr I _ (Nat.le_refl _)⟩ hf hfn hfr hco hz
    · refine kh _ _ ?_ (Heap.get?_push_size _ rfl)
      obtain ⟨ps, e⟩ := hP
      exact fun z => by
        have := I.hok.fresh (Nat.le_refl s.heap.objs.size)
        rw [z, e] at this
        cases this
    · exact fr _ (by show s.heap.objs.size < (s.heap.push _).objs.size; rw [Heap.size_push]; exact Nat.lt_succ_self _) (I.hok.fresh (Nat.le_refl _))
  · cases hp
end
/-! ### the lambda's names, its call -/
structure LamS2 (N : List Str) (sc scope : Scope) : Prop where
  kind : scope.kind = .function
  co : scope.isCoroutine = false
  gen : scope.isGenerator = false
  own : ∀ y ∈ scope.names, y.2 ≠ .cell ∧ (y.2 = .local → y.1 ∉ N)
  free : ∀ y ∈ scope.names, y.2 = .free → sc.names.lookup y.1 = some .cell ∨ sc.names.lookup y.1 = some .free
theorem LamS2.has {X : Cx} {scope : Scope} (L : LamS2 X.N X.env.scope scope) (ok : X.Ok) : ∀ y ∈ scope.names, y.2 = .free → ∃ c, X.env.cells.lookup y.1 = some c := fun y hy e => by
  rcases L.free y hy e with k | k
  · exact ok.has _ (.inl k)
  · exact ok.has _ (.inr k)
def lamB (ls : Bool) (N : List Str) (sc scope : Scope) : Bool :=
  decide (scope.kind = .function) && !scope.isCoroutine && !scope.isGenerator && (scope.names.all fun y => !decide (y.2 = .cell) && (!decide (y.2 = .local) || !(N.contains y.1)) && (!decide (y.2 = .free) || decide (sc.names.lookup y.1 = some .cell) || decide (sc.names.lookup y.1 = some .free))) &&
    (!ls || decide (scope.names.lookup ("_law_a" : Str) = some .local))
theorem lamB_ok {ls : Bool} {N : List Str} {sc scope : Scope} (h : lamB ls N sc scope = true) : LamS2 N sc scope ∧ (ls = true → scope.names.lookup ("_law_a" : Str) = some .local) := by
  unfold lamB at h
  simp only [Bool.and_eq_true, Bool.or_eq_true, Bool.not_eq_true', decide_eq_true_eq, decide_eq_false_iff_not, List.all_eq_true] at h
  obtain ⟨⟨⟨⟨h1, h2⟩, h3⟩, h4⟩, h5⟩ := h
  refine ⟨⟨h1, h2, h3, fun y hy => ⟨(h4 y hy).1.1, fun e => ?_⟩, fun y hy e => ?_⟩, fun e => ?_⟩
  · rcases (h4 y hy).1.2 with z | z
    · exact absurd e z
    · exact fun m => by
        have := List.contains_iff_mem.mpr m
        rw [z] at this
        cases this
  · rcases (h4 y hy).2 with (z | z) | z
    · exact absurd e z
    · exact .inl z
    · exact .inr z
  · rcases h5 with z | z
    · rw [e] at z; cases z
    · exact z
end EK

set_option Elab.async false
set_option linter.all false
set_option maxRecDepth 100000
set_option maxHeartbeats 4000000
namespace EK
open PySem L2

/-! ### data -/
inductive D where
  | non | bl (b : Bool) | int (i : Int) | str (s : List Nat) | tup (xs : List D) | lst (xs : List D)
  | dic (kvs : List (Key × D)) | fn (x : Str) | loc (k : Nat) | frz (xs : List D)
  | exc (c : Str) (ds : List D) | opq | adr (a : Addr)
inductive O where
  | lst (ds : List D) | dic (kvs : List (Key × D)) | tab (nm : List (Str × NameKind))
abbrev Sto := List O
abbrev Gam := List (Option D)
/-- what is fixed: the written part, the module's names, the field of each error class -/
structure Ct where
  K : PySem.W.Frag
  mg : Str → Option Value
  fld : Str → Str
  tb : List (Str × NameKind) → Option (Addr × Str) := fun _ => none

/-- addresses apart: those of the store, by number; those that are reserved -/
structure Rg where
  st : List Addr
  ex : List Addr
def Rg.all (ρ : Rg) : List Addr := ρ.st ++ ρ.ex
instance : Membership Addr Rg := ⟨fun ρ a => a ∈ ρ.all⟩
instance (ρ : Rg) (a : Addr) : Decidable (a ∈ ρ) := inferInstanceAs (Decidable (a ∈ ρ.all))
theorem Rg.of_st {ρ : Rg} {a : Addr} (h : a ∈ ρ.st) : a ∈ ρ := List.mem_append_left _ h
theorem Rg.of_ex {ρ : Rg} {a : Addr} (h : a ∈ ρ.ex) : a ∈ ρ := List.mem_append_right _ h
theorem Rg.mem {ρ : Rg} {a : Addr} : a ∈ ρ ↔ a ∈ ρ.st ∨ a ∈ ρ.ex := List.mem_append
def WrT (K : PySem.W.Frag) (a : Addr) (xs : List V) : Prop :=
  ∃ (o : Obj) (its : Array Value) (n : Nat), K.lookup a = some o ∧ o.cls = .type "tuple" ∧ o.data = .seq its n ∧ its.size ≤ sizeLine ∧ Vals xs its.toList
def TupAt (C : Ct) (H : Hp) (ρ : Rg) (a : Addr) (xs : List V) : Prop := (Rd H a (.tup xs) ∧ a ∉ ρ) ∨ WrT C.K a xs
def WrL (K : PySem.W.Frag) (a : Addr) (xs : List V) : Prop :=
  ∃ (o : Obj) (its : Array Value) (n : Nat), K.lookup a = some o ∧ o.cls = .type "list" ∧ o.dict = none ∧ o.data = .seq its n ∧ its.size ≤ sizeLine ∧ Vals xs its.toList
def FrzAt (C : Ct) (H : Hp) (ρ : Rg) (a : Addr) (xs : List V) : Prop := (Rd H a (.lst xs) ∧ a ∉ ρ) ∨ WrL C.K a xs
theorem FrzAt.sq {C : Ct} {H : Hp} {ρ : Rg} {a : Addr} {xs : List V} (h : FrzAt C H ρ a xs) : SqL C.K H a xs := by
  rcases h with h | h
  · exact .inl h.1
  · exact .inr h
def LstAt (H : Hp) (ρ : Rg) (a : Addr) (xs : List V) : Prop := H a = some (.lst xs) ∧ a ∉ ρ
theorem TupAt.sq {C : Ct} {H : Hp} {ρ : Rg} {a : Addr} {xs : List V} (h : TupAt C H ρ a xs) : SqT C.K H a xs := by
  rcases h with h | h
  · exact .inl h.1
  · exact .inr h
theorem LstAt.sq {K : PySem.W.Frag} {H : Hp} {ρ : Rg} {a : Addr} {xs : List V} (h : LstAt H ρ a xs) : SqL K H a xs := .inl (.inl h.1)
mutual
inductive RepD (C : Ct) (H : Hp) (ρ : Rg) : V → D → Prop
  | non : RepD C H ρ .non .non
  | bl (b : Bool) : RepD C H ρ (.bl b) (.bl b)
  | int (i : Int) : RepD C H ρ (.int i) (.int i)
  | str (s : List Nat) : RepD C H ρ (.str ⟨s.toArray⟩) (.str s)
  | tup {a : Addr} {xs : List V} {ds : List D} : TupAt C H ρ a xs → RepA C H ρ xs ds → RepD C H ρ (.ref a) (.tup ds)
  | lst {a : Addr} {xs : List V} {ds : List D} : LstAt H ρ a xs → RepA C H ρ xs ds → RepD C H ρ (.ref a) (.lst ds)
  | dic {a : Addr} {kvs : List (Key × V)} {es : List (Key × D)} : H a = some (.dK kvs) → a ∉ ρ → kvs.map (·.1) = es.map (·.1) → RepA C H ρ (kvs.map (·.2)) (es.map (·.2)) → RepD C H ρ (.ref a) (.dic es)
  | fn {x : Str} {f : Addr} : C.mg x = some (.ref f) → RepD C H ρ (.ref f) (.fn x)
  | frz {a : Addr} {xs : List V} {ds : List D} : FrzAt C H ρ a xs → RepA C H ρ xs ds → RepD C H ρ (.ref a) (.frz ds)
  | exc0 {a Ca : Addr} {c : Str} : C.mg c = some (.ref Ca) → H a = some (ExT (.ref Ca) none a) → a ∉ ρ → RepD C H ρ (.ref a) (.exc c [])
  | exc1 {a Ca dd : Addr} {c : Str} {v : V} {d : D} : C.mg c = some (.ref Ca) → H a = some (ExT (.ref Ca) (some dd) a) → a ∉ ρ → H dd = some (.xd [(C.fld c, v)]) → dd ∉ ρ → RepD C H ρ v d → RepD C H ρ (.ref a) (.exc c [d])
  | opq (v : V) : RepD C H ρ v .opq
  | adr (a : Addr) : RepD C H ρ (.ref a) (.adr a)
inductive RepA (C : Ct) (H : Hp) (ρ : Rg) : List V → List D → Prop
  | nil : RepA C H ρ [] []
  | cons {v : V} {vs : List V} {d : D} {ds : List D} : RepD C H ρ v d → RepA C H ρ vs ds → RepA C H ρ (v :: vs) (d :: ds)
end
/-- what is outside the store stays, the store's new places were free -/
structure Nx (H : Hp) (ρ : Rg) (H' : Hp) (ρ' : Rg) : Prop where
  kp : ∀ a o, H a = some o → a ∉ ρ.st → H' a = some o
  fr : ∀ a, a ∈ ρ' → a ∈ ρ ∨ H a = none
/-- what is outside all of them stays -/
structure Nw (H : Hp) (ρ : Rg) (H' : Hp) (ρ' : Rg) : Prop where
  kp : ∀ a o, H a = some o → a ∉ ρ → H' a = some o
  fr : ∀ a, a ∈ ρ' → a ∈ ρ ∨ H a = none
section
variable {C : Ct} {H H' H'' : Hp} {ρ ρ' ρ'' : Rg}
theorem Nx.w (N : Nx H ρ H' ρ') : Nw H ρ H' ρ' := ⟨fun a o h n => N.kp a o h fun z => n (Rg.of_st z), N.fr⟩
theorem Nx.refl (H : Hp) (ρ : Rg) : Nx H ρ H ρ := ⟨fun _ _ h _ => h, fun _ h => .inl h⟩
theorem Nw.out (N : Nw H ρ H' ρ') {a : Addr} {o : HO} (h : H a = some o) (ha : a ∉ ρ) : a ∉ ρ' := fun z => by
  rcases N.fr a z with q | q
  · exact ha q
  · rw [h] at q; cases q
/-- the stores' own part of fr -/
def Sub (ρ ρ' : Rg) (H : Hp) : Prop := ∀ a, a ∈ ρ'.st → a ∈ ρ.st ∨ H a = none
theorem Sub.rfl {ρ : Rg} {H : Hp} : Sub ρ ρ H := fun _ h => .inl h
theorem Nx.trans (N : Nx H ρ H' ρ') (M : Nx H' ρ' H'' ρ'') (s : Sub ρ ρ' H := by exact Sub.rfl) : Nx H ρ H'' ρ'' := by
  have out : ∀ a o, H a = some o → a ∉ ρ.st → a ∉ ρ'.st := fun a o h n z => by
    rcases s a z with q | q
    · exact n q
    · rw [h] at q; cases q
  refine ⟨fun a o h ha => M.kp a o (N.kp a o h ha) (out a o h ha), fun a z => ?_⟩
  rcases M.fr a z with q | q
  · exact N.fr a q
  · by_cases ha : a ∈ ρ
    · exact .inl ha
    · right
      cases e : H a with
      | none => rfl
      | some o => rw [N.kp a o e (fun z => ha (Rg.of_st z))] at q; cases q
theorem Nx.new {p : Addr} {o : HO} (h : H p = none) : Nx H ρ (upd H p o) ρ :=
  ⟨fun a u e _ => by rw [upd_ne (ne_of_none e h)]; exact e, fun _ z => .inl z⟩
theorem Nx.mut {p : Addr} {o : HO} (h : p ∈ ρ.st) : Nx H ρ (upd H p o) ρ :=
  ⟨fun a u e ha => by rw [upd_ne (fun z : a = p => ha (by rw [z]; exact h))]; exact e, fun _ z => .inl z⟩
theorem Nw.mut {p : Addr} {o : HO} (h : p ∈ ρ) : Nw H ρ (upd H p o) ρ :=
  ⟨fun a u e ha => by rw [upd_ne (fun z : a = p => ha (by rw [z]; exact h))]; exact e, fun _ z => .inl z⟩
def Rg.grow (ρ : Rg) (p : Addr) : Rg := ⟨ρ.st ++ [p], ρ.ex⟩
def Rg.keep (ρ : Rg) (p : Addr) : Rg := ⟨ρ.st, ρ.ex ++ [p]⟩
theorem Rg.mem_grow {ρ : Rg} {p a : Addr} : a ∈ ρ.grow p ↔ a ∈ ρ ∨ a = p := by
  rw [Rg.mem, Rg.mem]
  show a ∈ ρ.st ++ [p] ∨ a ∈ ρ.ex ↔ _
  rw [List.mem_append, List.mem_singleton]
  constructor
  · rintro ((h | h) | h)
    · exact .inl (.inl h)
    · exact .inr h
    · exact .inl (.inr h)
  · rintro ((h | h) | h)
    · exact .inl (.inl h)
    · exact .inr h
    · exact .inl (.inr h)
theorem Rg.mem_keep {ρ : Rg} {p a : Addr} : a ∈ ρ.keep p ↔ a ∈ ρ ∨ a = p := by
  rw [Rg.mem, Rg.mem]
  show a ∈ ρ.st ∨ a ∈ ρ.ex ++ [p] ↔ _
  rw [List.mem_append, List.mem_singleton]
  constructor
  · rintro (h | (h | h))
    · exact .inl (.inl h)
    · exact .inl (.inr h)
    · exact .inr h
  · rintro ((h | h) | h)
    · exact .inl h
    · exact .inr (.inl h)
    · exact .inr (.inr h)
theorem Nx.grow {p : Addr} {o : HO} (h : H p = none) : Nx H ρ (upd H p o) (ρ.grow p) :=
  ⟨fun a u e _ => by rw [upd_ne (ne_of_none e h)]; exact e, fun a z => by
    rcases Rg.mem_grow.mp z with q | q
    · exact .inl q
    · rw [q]; exact .inr h⟩
theorem Nx.keep {p : Addr} {o : HO} (h : H p = none) : Nx H ρ (upd H p o) (ρ.keep p) :=
  ⟨fun a u e _ => by rw [upd_ne (ne_of_none e h)]; exact e, fun a z => by
    rcases Rg.mem_keep.mp z with q | q
    · exact .inl q
    · rw [q]; exact .inr h⟩
theorem Rd.nw {a : Addr} {u : HO} (N : Nw H ρ H' ρ') (h : Rd H a u) (ha : a ∉ ρ) : Rd H' a u ∧ a ∉ ρ' := by
  rcases h with h | ⟨o, h⟩
  · exact ⟨.inl (N.kp _ _ h ha), N.out h ha⟩
  · exact ⟨.inr ⟨o, N.kp _ _ h ha⟩, N.out h ha⟩
theorem TupAt.nw {a : Addr} {xs : List V} (N : Nw H ρ H' ρ') (h : TupAt C H ρ a xs) : TupAt C H' ρ' a xs := by
  rcases h with h | h
  · exact .inl (Rd.nw N h.1 h.2)
  · exact .inr h
theorem FrzAt.nw {a : Addr} {xs : List V} (N : Nw H ρ H' ρ') (h : FrzAt C H ρ a xs) : FrzAt C H' ρ' a xs := by
  rcases h with h | h
  · exact .inl (Rd.nw N h.1 h.2)
  · exact .inr h
theorem LstAt.nw {a : Addr} {xs : List V} (N : Nw H ρ H' ρ') (h : LstAt H ρ a xs) : LstAt H' ρ' a xs := ⟨N.kp _ _ h.1 h.2, N.out h.1 h.2⟩
mutual
theorem RepD.nw (N : Nw H ρ H' ρ') : ∀ {v : V} {d : D}, RepD C H ρ v d → RepD C H' ρ' v d
  | _, _, .non => .non
  | _, _, .bl b => .bl b
  | _, _, .int i => .int i
  | _, _, .str s => .str s
  | _, _, .tup h r => .tup (h.nw N) (RepA.nw N r)
  | _, _, .lst h r => .lst (h.nw N) (RepA.nw N r)
  | _, _, .dic h ha e r => .dic (N.kp _ _ h ha) (N.out h ha) e (RepA.nw N r)
  | _, _, .fn h => .fn h
  | _, _, .frz h r => .frz (h.nw N) (RepA.nw N r)
  | _, _, .exc0 m h ha => .exc0 m (N.kp _ _ h ha) (N.out h ha)
  | _, _, .exc1 m h ha q hd r => .exc1 m (N.kp _ _ h ha) (N.out h ha) (N.kp _ _ q hd) (N.out q hd) (RepD.nw N r)
  | _, _, .opq v => .opq v
  | _, _, .adr a => .adr a
theorem RepA.nw (N : Nw H ρ H' ρ') : ∀ {vs : List V} {ds : List D}, RepA C H ρ vs ds → RepA C H' ρ' vs ds
  | _, _, .nil => .nil
  | _, _, .cons h r => .cons (RepD.nw N h) (RepA.nw N r)
end
theorem RepD.nx (N : Nx H ρ H' ρ') {v : V} {d : D} (h : RepD C H ρ v d) : RepD C H' ρ' v d := h.nw N.w
theorem RepA.nx (N : Nx H ρ H' ρ') {vs : List V} {ds : List D} (h : RepA C H ρ vs ds) : RepA C H' ρ' vs ds := h.nw N.w
theorem TupAt.nx {a : Addr} {xs : List V} (N : Nx H ρ H' ρ') (h : TupAt C H ρ a xs) : TupAt C H' ρ' a xs := h.nw N.w
theorem LstAt.nx {a : Addr} {xs : List V} (N : Nx H ρ H' ρ') (h : LstAt H ρ a xs) : LstAt H' ρ' a xs := h.nw N.w
/-- where the store shrinks -/
theorem TupAt.less {a : Addr} {xs : List V} (hs : ∀ a, a ∈ ρ' → a ∈ ρ) (h : TupAt C H ρ a xs) : TupAt C H ρ' a xs := by
  rcases h with h | h
  · exact .inl ⟨h.1, fun z => h.2 (hs _ z)⟩
  · exact .inr h
theorem FrzAt.less {a : Addr} {xs : List V} (hs : ∀ a, a ∈ ρ' → a ∈ ρ) (h : FrzAt C H ρ a xs) : FrzAt C H ρ' a xs := by
  rcases h with h | h
  · exact .inl ⟨h.1, fun z => h.2 (hs _ z)⟩
  · exact .inr h
mutual
theorem RepD.less (hs : ∀ a, a ∈ ρ' → a ∈ ρ) : ∀ {v : V} {d : D}, RepD C H ρ v d → RepD C H ρ' v d
  | _, _, .non => .non
  | _, _, .bl b => .bl b
  | _, _, .int i => .int i
  | _, _, .str s => .str s
  | _, _, .tup h r => .tup (h.less hs) (RepA.less hs r)
  | _, _, .lst h r => .lst ⟨h.1, fun z => h.2 (hs _ z)⟩ (RepA.less hs r)
  | _, _, .dic h ha e r => .dic h (fun z => ha (hs _ z)) e (RepA.less hs r)
  | _, _, .fn h => .fn h
  | _, _, .frz h r => .frz (h.less hs) (RepA.less hs r)
  | _, _, .exc0 m h ha => .exc0 m h (fun z => ha (hs _ z))
  | _, _, .exc1 m h ha q hd r => .exc1 m h (fun z => ha (hs _ z)) q (fun z => hd (hs _ z)) (RepD.less hs r)
  | _, _, .opq v => .opq v
  | _, _, .adr a => .adr a
theorem RepA.less (hs : ∀ a, a ∈ ρ' → a ∈ ρ) : ∀ {vs : List V} {ds : List D}, RepA C H ρ vs ds → RepA C H ρ' vs ds
  | _, _, .nil => .nil
  | _, _, .cons h r => .cons (RepD.less hs h) (RepA.less hs r)
end
theorem RepA.length : ∀ {vs : List V} {ds : List D}, RepA C H ρ vs ds → vs.length = ds.length
  | _, _, .nil => rfl
  | _, _, .cons _ r => by rw [List.length_cons, List.length_cons, RepA.length r]
theorem RepA.append : ∀ {vs ws : List V} {ds es : List D}, RepA C H ρ vs ds → RepA C H ρ ws es → RepA C H ρ (vs ++ ws) (ds ++ es)
  | _, _, _, _, .nil, s => s
  | _, _, _, _, .cons h r, s => .cons h (RepA.append r s)
theorem RepA.get : ∀ {vs : List V} {ds : List D} {i : Nat} {v : V}, RepA C H ρ vs ds → vs[i]? = some v → ∃ d, ds[i]? = some d ∧ RepD C H ρ v d
  | _, _, _, _, .nil, e => by simp at e
  | _, _, 0, _, .cons h _, e => by simp at e; subst e; exact ⟨_, rfl, h⟩
  | _, _, i + 1, _, .cons _ r, e => by
    obtain ⟨d, h1, h2⟩ := RepA.get (i := i) r (by simpa using e)
    exact ⟨d, by simpa using h1, h2⟩
theorem RepA.get' : ∀ {vs : List V} {ds : List D} {i : Nat} {d : D}, RepA C H ρ vs ds → ds[i]? = some d → ∃ v, vs[i]? = some v ∧ RepD C H ρ v d
  | _, _, _, _, .nil, e => by simp at e
  | _, _, 0, _, .cons h _, e => by simp at e; subst e; exact ⟨_, rfl, h⟩
  | _, _, i + 1, _, .cons _ r, e => by
    obtain ⟨d, h1, h2⟩ := RepA.get' (i := i) r (by simpa using e)
    exact ⟨d, by simpa using h1, h2⟩
theorem RepA.set : ∀ {vs : List V} {ds : List D} {i : Nat} {v : V} {d : D}, RepA C H ρ vs ds → RepD C H ρ v d → RepA C H ρ (vs.set i v) (ds.set i d)
  | _, _, _, _, _, .nil, _ => .nil
  | _, _, 0, _, _, .cons _ r, h => .cons h r
  | _, _, _ + 1, _, _, .cons q r, h => .cons q (RepA.set r h)
theorem RepA.take : ∀ {vs : List V} {ds : List D} (n : Nat), RepA C H ρ vs ds → RepA C H ρ (vs.take n) (ds.take n)
  | _, _, 0, _ => .nil
  | _, _, _ + 1, .nil => .nil
  | _, _, n + 1, .cons h r => .cons h (RepA.take n r)
theorem RepA.drop : ∀ {vs : List V} {ds : List D} (n : Nat), RepA C H ρ vs ds → RepA C H ρ (vs.drop n) (ds.drop n)
  | _, _, 0, r => r
  | _, _, _ + 1, .nil => .nil
  | _, _, n + 1, .cons _ r => RepA.drop n r
theorem RepA.reverse : ∀ {vs : List V} {ds : List D}, RepA C H ρ vs ds → RepA C H ρ vs.reverse ds.reverse
  | _, _, .nil => .nil
  | _, _, .cons h r => by rw [List.reverse_cons, List.reverse_cons]; exact (RepA.reverse r).append (.cons h .nil)
theorem RepA.rep {vs : List V} {ds : List D} (r : RepA C H ρ vs ds) : ∀ n : Nat, RepA C H ρ (List.replicate n vs).flatten (List.replicate n ds).flatten
  | 0 => .nil
  | n + 1 => by rw [List.replicate_succ, List.replicate_succ, List.flatten_cons, List.flatten_cons]; exact r.append (r.rep n)

/-! ### the store -/
def OAt (C : Ct) (H : Hp) (ρ : Rg) (a : Addr) : O → Prop
  | .lst ds => ∃ xs, H a = some (.lst xs) ∧ RepA C H ρ xs ds
  | .dic es => ∃ kvs : List (Key × V), H a = some (.dK kvs) ∧ kvs.map (·.1) = es.map (·.1) ∧ RepA C H ρ (kvs.map (·.2)) (es.map (·.2))
  | .tab nm => ∃ q : Str, C.tb nm = some (a, q) ∧ TabZ H a q fun c => c ∉ ρ
theorem OAt.nw (N : Nw H ρ H' ρ') {a : Addr} (e : H' a = H a) : ∀ {o : O}, OAt C H ρ a o → OAt C H' ρ' a o
  | .lst _, ⟨xs, h, r⟩ => ⟨xs, e.trans h, r.nw N⟩
  | .dic _, ⟨kvs, h, q, r⟩ => ⟨kvs, e.trans h, q, r.nw N⟩
  | .tab _, ⟨q, h0, ps, h, t, r⟩ => ⟨q, h0, ps, e.trans h, t, fun pos cv hc => by
    obtain ⟨c, e1, e2, e3⟩ := r pos cv hc
    exact ⟨c, e1, N.kp _ _ e2 e3, N.out e2 e3⟩⟩
theorem OAt.less (hs : ∀ a, a ∈ ρ' → a ∈ ρ) {a : Addr} : ∀ {o : O}, OAt C H ρ a o → OAt C H ρ' a o
  | .lst _, ⟨xs, h, r⟩ => ⟨xs, h, r.less hs⟩
  | .dic _, ⟨kvs, h, q, r⟩ => ⟨kvs, h, q, r.less hs⟩
  | .tab _, ⟨q, h0, ps, h, t, r⟩ => ⟨q, h0, ps, h, t, fun pos cv hc => by
    obtain ⟨c, e1, e2, e3⟩ := r pos cv hc
    exact ⟨c, e1, e2, fun z => e3 (hs _ z)⟩⟩
theorem OAt.some {a : Addr} : ∀ {o : O}, OAt C H ρ a o → H a ≠ none
  | .lst _, ⟨_, h, _⟩ => by rw [h]; exact fun z => by cases z
  | .dic _, ⟨_, h, _, _⟩ => by rw [h]; exact fun z => by cases z
  | .tab _, ⟨_, _, _, h, _, _⟩ => by rw [h]; exact fun z => by cases z
structure StOk (C : Ct) (H : Hp) (ρ : Rg) (S : Sto) : Prop where
  len : ρ.st.length = S.length
  nd : ρ.all.Nodup
  at_ : ∀ (k : Nat) (a : Addr) (o : O), ρ.st[k]? = some a → S[k]? = some o → OAt C H ρ a o
  rs : ∀ a, a ∈ ρ.ex → H a ≠ none
variable {S S' : Sto}
theorem StOk.there (s : StOk C H ρ S) {a : Addr} (h : a ∈ ρ) : H a ≠ none := by
  rcases Rg.mem.mp h with h | h
  · obtain ⟨k, hk, e⟩ := List.mem_iff_getElem.mp h
    have h1 : ρ.st[k]? = some a := by rw [List.getElem?_eq_getElem hk, e]
    have h2 : S[k]? = some (S[k]'(by rw [← s.len]; exact hk)) := List.getElem?_eq_getElem _
    exact (s.at_ k a _ h1 h2).some
  · exact s.rs a h
theorem StOk.free (s : StOk C H ρ S) {p : Addr} (h : H p = none) : p ∉ ρ := fun z => s.there z h
theorem StOk.nds (s : StOk C H ρ S) : ρ.st.Nodup := (List.nodup_append.mp s.nd).1
theorem StOk.apart (s : StOk C H ρ S) {a : Addr} (h : a ∈ ρ.st) (h' : a ∈ ρ.ex) : False := (List.nodup_append.mp s.nd).2.2 a h a h' rfl
/-- a new object outside the store -/
theorem StOk.new (s : StOk C H ρ S) {p : Addr} {o : HO} (h : H p = none) : StOk C (upd H p o) ρ S :=
  ⟨s.len, s.nd, fun k a u h1 h2 => (s.at_ k a u h1 h2).nw (Nx.new h).w (upd_ne (fun z => s.free h (z ▸ Rg.of_st (List.mem_of_getElem? h1)))),
    fun a ha => by rw [upd_ne (fun z : a = p => s.free h (by rw [← z]; exact Rg.of_ex ha))]; exact s.rs a ha⟩
/-- an object of the store is changed -/
theorem StOk.mut (s : StOk C H ρ S) {k : Nat} {p : Addr} {o : O} {ho : HO} (hk : ρ.st[k]? = some p) (h : OAt C (upd H p ho) ρ p o) : StOk C (upd H p ho) ρ (S.set k o) := by
  have hp : p ∈ ρ.st := List.mem_of_getElem? hk
  refine ⟨by rw [List.length_set]; exact s.len, s.nd, fun j a u h1 h2 => ?_, fun a ha => ?_⟩
  · by_cases e : j = k
    · subst e
      rw [hk] at h1
      cases h1
      have hj : j < S.length := by rw [← s.len]; exact (List.getElem?_eq_some_iff.mp hk).1
      rw [List.getElem?_set_self hj] at h2
      cases h2
      exact h
    · rw [List.getElem?_set_ne (Ne.symm e)] at h2
      refine (s.at_ j a u h1 h2).nw (Nx.mut hp).w (upd_ne fun z => e ?_)
      subst z
      exact nd_ix s.nds h1 hk
  · rw [upd_ne (fun z : a = p => s.apart hp (by rw [← z]; exact ha))]; exact s.rs a ha
/-- a reserved object is changed -/
theorem StOk.mutEx (s : StOk C H ρ S) {p : Addr} {ho : HO} (hp : p ∈ ρ.ex) : StOk C (upd H p ho) ρ S := by
  refine ⟨s.len, s.nd, fun j a u h1 h2 => ?_, fun a ha => ?_⟩
  · exact (s.at_ j a u h1 h2).nw (Nw.mut (Rg.of_ex hp)) (upd_ne fun z : a = p => s.apart (List.mem_of_getElem? h1) (by rw [z]; exact hp))
  · by_cases e : a = p
    · subst e; rw [upd_same]; exact fun z => by cases z
    · rw [upd_ne e]; exact s.rs a ha
/-- the store grows -/
theorem StOk.grow (s : StOk C H ρ S) {p : Addr} {o : O} {ho : HO} (h : H p = none) (q : OAt C (upd H p ho) (ρ.grow p) p o) : StOk C (upd H p ho) (ρ.grow p) (S ++ [o]) := by
  have hf := s.free h
  refine ⟨by show (ρ.st ++ [p]).length = _; simp [s.len], ?_, fun j a u h1 h2 => ?_, fun a ha => ?_⟩
  · show ((ρ.st ++ [p]) ++ ρ.ex).Nodup
    have nd := s.nd
    unfold Rg.all at nd
    rw [List.nodup_append] at nd ⊢
    refine ⟨?_, nd.2.1, fun a ha b hb => ?_⟩
    · rw [List.nodup_append]
      refine ⟨nd.1, by simp, fun a ha b hb => ?_⟩
      rw [List.mem_singleton.mp hb]
      exact fun z => hf (z ▸ Rg.of_st ha)
    · rcases List.mem_append.mp ha with ha | ha
      · exact nd.2.2 a ha b hb
      · rw [List.mem_singleton.mp ha]
        exact fun z => hf (z ▸ Rg.of_ex hb)
  · have h1 : (ρ.st ++ [p])[j]? = some a := h1
    by_cases e : j < ρ.st.length
    · rw [List.getElem?_append_left e] at h1
      rw [List.getElem?_append_left (by rw [← s.len]; exact e)] at h2
      exact (s.at_ j a u h1 h2).nw (Nx.grow h).w (upd_ne fun z => hf (z ▸ Rg.of_st (List.mem_of_getElem? h1)))
    · have e1 : j = ρ.st.length := by
        have := (List.getElem?_eq_some_iff.mp h1).1
        rw [List.length_append, List.length_singleton] at this
        omega
      subst e1
      rw [List.getElem?_append_right (Nat.le_refl _), Nat.sub_self] at h1
      rw [s.len, List.getElem?_append_right (Nat.le_refl _), Nat.sub_self] at h2
      cases h1
      cases h2
      exact q
  · rw [upd_ne (fun z : a = p => hf (by rw [← z]; exact Rg.of_ex ha))]; exact s.rs a ha
/-- a new object is reserved -/
theorem StOk.keep (s : StOk C H ρ S) {p : Addr} {ho : HO} (h : H p = none) : StOk C (upd H p ho) (ρ.keep p) S := by
  have hf := s.free h
  refine ⟨s.len, ?_, fun j a u h1 h2 => ?_, fun a ha => ?_⟩
  · show (ρ.st ++ (ρ.ex ++ [p])).Nodup
    rw [← List.append_assoc, List.nodup_append]
    refine ⟨s.nd, by simp, fun a ha b hb => ?_⟩
    rw [List.mem_singleton.mp hb]
    exact fun z => hf (by rw [← z]; exact ha)
  · exact (s.at_ j a u h1 h2).nw (Nx.keep h).w (upd_ne fun z => hf (z ▸ Rg.of_st (List.mem_of_getElem? h1)))
  · by_cases e : a = p
    · subst e; rw [upd_same]; exact fun z => by cases z
    · rw [upd_ne e]
      rcases List.mem_append.mp ha with ha | ha
      · exact s.rs a ha
      · exact absurd (List.mem_singleton.mp ha) e
def Rg.cut (ρ : Rg) (n : Nat) : Rg := ⟨ρ.st.take n, ρ.ex⟩
theorem Rg.mem_cut {ρ : Rg} {n : Nat} {a : Addr} (h : a ∈ ρ.cut n) : a ∈ ρ := by
  rcases Rg.mem.mp h with h | h
  · exact Rg.of_st (List.mem_of_mem_take h)
  · exact Rg.of_ex h
theorem StOk.take (s : StOk C H ρ S) (n : Nat) : StOk C H (ρ.cut n) (S.take n) := by
  refine ⟨by show (ρ.st.take n).length = _; simp [s.len], ?_, fun j a u h1 h2 => ?_, s.rs⟩
  · show (ρ.st.take n ++ ρ.ex).Nodup
    have nd := s.nd
    unfold Rg.all at nd
    exact nd.sublist (List.Sublist.append (List.take_sublist _ _) (List.Sublist.refl _))
  · have h1 : (ρ.st.take n)[j]? = some a := h1
    rw [List.getElem?_take] at h1 h2
    split at h1
    · rename_i hj
      rw [if_pos hj] at h2
      exact (s.at_ j a u h1 h2).less fun a z => Rg.mem_cut z
    · cases h1
/-- what was reserved last is let go -/
theorem StOk.unkeep {p : Addr} (s : StOk C H (ρ.keep p) S) : StOk C H ρ S := by
  have hs : ∀ a, a ∈ ρ → a ∈ ρ.keep p := fun a h => Rg.mem_keep.mpr (.inl h)
  refine ⟨s.len, ?_, fun j a u h1 h2 => (s.at_ j a u h1 h2).less hs, fun a ha => s.rs a (List.mem_append_left _ ha)⟩
  have nd : (ρ.st ++ (ρ.ex ++ [p])).Nodup := s.nd
  rw [← List.append_assoc] at nd
  exact (List.nodup_append.mp nd).1
def Rep (C : Ct) (H : Hp) (ρ : Rg) (v : V) (d : D) : Prop := RepD C H ρ v d ∨ ∃ k a, d = .loc k ∧ v = .ref a ∧ ρ.st[k]? = some a
theorem RepD.noloc : ∀ {v : V} {d : D} {k : Nat}, RepD C H ρ v d → d ≠ .loc k := fun h z => by subst z; cases h
/-- ρ' begins as ρ does -/
def Pre (ρ ρ' : Rg) : Prop := ∀ (k : Nat) (a : Addr), ρ.st[k]? = some a → ρ'.st[k]? = some a
theorem Rep.nx (N : Nx H ρ H' ρ') (p : Pre ρ ρ') {v : V} {d : D} (h : Rep C H ρ v d) : Rep C H' ρ' v d := by
  rcases h with h | ⟨k, a, e1, e2, e3⟩
  · exact .inl (h.nx N)
  · exact .inr ⟨k, a, e1, e2, p k a e3⟩
theorem Rep.nx0 (N : Nx H ρ H' ρ) {v : V} {d : D} (h : Rep C H ρ v d) : Rep C H' ρ v d := h.nx N fun _ _ e => e
/-- data as it stands, the store's object read -/
def vw (S : Sto) : D → D
  | .loc k => match S[k]? with
    | some (.lst ds) => .lst ds
    | some (.dic kvs) => .dic kvs
    | some (.tab _) => .opq
    | none => .loc k
  | d => d
end
end EK

set_option Elab.async false
set_option linter.all false
set_option maxRecDepth 100000
set_option maxHeartbeats 4000000
namespace EK
open PySem PySem.Spec PyProof.Rows L2
/-! ### a tuple, none or one time -/
theorem tm_one (b : Addr) (ws : Array Value) (m : Nat) (q : Option Addr) (z : Array (Option Value)) (k : Int) (t : Tok) (k0 : (decide (k < -(2 ^ 63)) || decide (k ≥ 2 ^ 63)) = false) (k1 : (ws.isEmpty || k == 1) = true) :
    Meets (Builtin.«tuple.__mul__» ⟨[.ref b, .int k t], []⟩) (fun _ W st => st.heap.get? b = some { cls := .type "tuple", dict := q, data := .seq ws m, slots := z } ∧ W (.ok (.ret (Value.ref b))) st) :=
  .of_wp fun P wo Ar W st hh => by
    obtain ⟨h1, h2, h3, h4, h5⟩ := st
    obtain ⟨hb, hh⟩ := hh
    have fi := AutoSeq1.idx_int
    wp_walk using wpAny_loadPart' hb
    repeat (first
      | (refine wpAny_ite_false (decide_eq_false (by rw [k0]; exact Bool.false_ne_true)) ?_; wp_walk using wpAny_loadPart' hb)
      | (refine wpAny_ite_true (decide_eq_true k1) ?_; wp_walk using wpAny_loadPart' hb))
    exact ⟨_, rfl, hh⟩
theorem tm_none (b : Addr) (ws : Array Value) (m : Nat) (q : Option Addr) (z : Array (Option Value)) (k : Int) (t : Tok) (k0 : (decide (k < -(2 ^ 63)) || decide (k ≥ 2 ^ 63)) = false) (k1 : (ws.isEmpty || k == 1) = false) (k2 : (decide (k ≤ 0) || ws.isEmpty) = true) :
    Meets (Builtin.«tuple.__mul__» ⟨[.ref b, .int k t], []⟩) (fun _ W st => st.heap.get? b = some { cls := .type "tuple", dict := q, data := .seq ws m, slots := z } ∧
      W (.ok (.ret (Value.ref st.heap.objs.size))) { st with heap := st.heap.push { cls := Value.type "tuple", data := Data.seq #[] }, toks := st.toks }) :=
  .of_wp fun P wo Ar W st hh => by
    obtain ⟨h1, h2, h3, h4, h5⟩ := st
    obtain ⟨hb, hh⟩ := hh
    have fi := AutoSeq1.idx_int
    wp_walk using wpAny_loadPart' hb
    repeat (first
      | (refine wpAny_ite_false (decide_eq_false (by rw [k0]; exact Bool.false_ne_true)) ?_; wp_walk using wpAny_loadPart' hb)
      | (refine wpAny_ite_false (decide_eq_false (by rw [k1]; exact Bool.false_ne_true)) ?_; wp_walk using wpAny_loadPart' hb)
      | (refine wpAny_ite_true (decide_eq_true k2) ?_; wp_walk using wpAny_loadPart' hb))
    exact ⟨_, rfl, hh⟩
theorem op_tm {X : Cx} : OpR X (binaryOp .Mult) (fun x y H Q => ∃ (b : Addr) (k : Int) (xs : List V), x = .ref b ∧ y = .int k ∧ SqT X.K H b xs ∧ xs ≠ [] ∧ ((k = 1 ∧ Q (.ref b) H) ∨ (k = 0 ∧ ∀ p, H p = none → Q (.ref p) (upd H p (.tup []))))) := by
  intro pn st σ H x y v u Q I r1 r2 hh
  obtain ⟨b, k, xs, rfl, rfl, sq, hne, hq⟩ := hh
  cases r1
  obtain ⟨t, rfl⟩ := r2
  obtain ⟨ws, rv, ⟨⟨oc, q, od, z⟩, hb, e1, m, e2⟩, hs⟩ := I.tuple sq
  dsimp only at e1 e2
  subst e1 e2
  have hw : ws.toArray.isEmpty = false := by
    cases ws with
    | nil => exact absurd (List.eq_nil_of_length_eq_zero rv.length) hne
    | cons _ _ => rfl
  have road := fun (W : Result → Shared → Prop) (mm : codeAny (model X.prog X.w) X.A (.builtin "tuple.__mul__" ⟨[.ref b, .int k t], []⟩) W st) => mm
  rcases hq with ⟨rfl, hq⟩ | ⟨rfl, hq⟩
  · have k1 : (ws.toArray.isEmpty || (1 : Int) == 1) = true := by rw [hw]; rfl
    refine wpAny_binaryOp_repeat_ref (T := "tuple") (U := "int") (by decide) ⟨_, hb, rfl⟩ (fun s2 => typeIs_int s2 1 t) noFill_tuple_mul
      F.fills_int_mul F.slot_int_rmul repeat_tuple F.slot_int_index.lookup ?_
    refine call_meets F.slot_int_rmul (typeIs_int st 1 t) F.entry_int_rmul (F.args_int_rmul_2 _ _) (int_rmul_tuple 1 t b ws.toArray m q z) ⟨hb, rfl, ⟨_, hb, rfl⟩, ?_⟩
    refine call_meets F.slot_tuple_mul ⟨_, hb, rfl⟩ F.entry_tuple_mul (F.args_tuple_mul_2 _ _) (tm_one b ws.toArray m q z 1 t (by decide) k1) ⟨hb, ?_⟩
    exact ⟨.ref b, H, I, rfl, hq⟩
  · have k1 : (ws.toArray.isEmpty || (0 : Int) == 1) = false := by rw [hw]; rfl
    have k2 : (decide ((0 : Int) ≤ 0) || ws.toArray.isEmpty) = true := rfl
    refine wpAny_binaryOp_repeat_ref (T := "tuple") (U := "int") (by decide) ⟨_, hb, rfl⟩ (fun s2 => typeIs_int s2 0 t) noFill_tuple_mul
      F.fills_int_mul F.slot_int_rmul repeat_tuple F.slot_int_index.lookup ?_
    refine call_meets F.slot_int_rmul (typeIs_int st 0 t) F.entry_int_rmul (F.args_int_rmul_2 _ _) (int_rmul_tuple 0 t b ws.toArray m q z) ⟨hb, rfl, ⟨_, hb, rfl⟩, ?_⟩
    refine call_meets F.slot_tuple_mul ⟨_, hb, rfl⟩ F.entry_tuple_mul (F.args_tuple_mul_2 _ _) (tm_none b ws.toArray m q z 0 t (by decide) k1 k2) ⟨hb, ?_⟩
    refine ⟨.ref st.heap.objs.size, _, I.laid (t' := st.toks) (o := .tup []) (fun c oc hc => Heap.get?_push_of_some _ hc) (Nat.le_refl _) ?_, rfl, hq _ (I.hok.fresh (Nat.le_refl _))⟩
    exact ⟨by simp, [], .nil, IsTup.new _ _⟩
/-- an empty tuple so many times -/
theorem op_tm0 {X : Cx} : OpR X (binaryOp .Mult) (fun x y H Q => ∃ (b : Addr) (k : Int), x = .ref b ∧ y = .int k ∧ SqT X.K H b [] ∧ 0 ≤ k ∧ k ≤ 1000 ∧ Q (.ref b) H) := by
  intro pn st σ H x y v u Q I r1 r2 hh
  obtain ⟨b, k, rfl, rfl, sq, k0, k1000, hq⟩ := hh
  cases r1
  obtain ⟨t, rfl⟩ := r2
  obtain ⟨ws, rv, ⟨⟨oc, q, od, z⟩, hb, e1, m, e2⟩, hs⟩ := I.tuple sq
  dsimp only at e1 e2
  subst e1 e2
  cases rv
  have k1 : ((([] : List Value).toArray).isEmpty || k == 1) = true := rfl
  have k2 : (decide (k < -(2 ^ 63)) || decide (k ≥ 2 ^ 63)) = false := by
    rw [decide_eq_false (by omega), decide_eq_false (by omega)]; rfl
  refine wpAny_binaryOp_repeat_ref (T := "tuple") (U := "int") (by decide) ⟨_, hb, rfl⟩ (fun s2 => typeIs_int s2 k t) noFill_tuple_mul
    F.fills_int_mul F.slot_int_rmul repeat_tuple F.slot_int_index.lookup ?_
  refine call_meets F.slot_int_rmul (typeIs_int st k t) F.entry_int_rmul (F.args_int_rmul_2 _ _) (int_rmul_tuple k t b ([] : List Value).toArray m q z) ⟨hb, rfl, ⟨_, hb, rfl⟩, ?_⟩
  refine call_meets F.slot_tuple_mul ⟨_, hb, rfl⟩ F.entry_tuple_mul (F.args_tuple_mul_2 _ _) (tm_one b ([] : List Value).toArray m q z k t k2 k1) ⟨hb, ?_⟩
  exact ⟨.ref b, H, I, rfl, hq⟩
end EK

set_option Elab.async false
set_option linter.all false
set_option maxRecDepth 100000
set_option maxHeartbeats 4000000
namespace EK
open PySem L2 PyProof.Rows PySem.Spec

section
variable {C : Ct} {H H' : Hp} {ρ ρ' : Rg} {S : Sto}
/-- what is read: data, or an object of the store -/
def VwR (C : Ct) (H : Hp) (ρ : Rg) (v : V) (d : D) : Prop :=
  RepD C H ρ v d ∨ (∃ a ds, v = .ref a ∧ d = .lst ds ∧ OAt C H ρ a (.lst ds)) ∨ ∃ a es, v = .ref a ∧ d = .dic es ∧ OAt C H ρ a (.dic es)
theorem Rep.vw (h : Rep C H ρ v d) (s : StOk C H ρ S) : VwR C H ρ v (vw S d) := by
  rcases h with h | ⟨k, a, rfl, rfl, hk⟩
  · have e : EK.vw S d = d := by
      cases d <;> first | rfl | exact absurd rfl (h.noloc)
    rw [e]; exact .inl h
  · have hl : k < S.length := by rw [← s.len]; exact (List.getElem?_eq_some_iff.mp hk).1
    have h2 : S[k]? = some S[k] := List.getElem?_eq_getElem hl
    have q := s.at_ k a _ hk h2
    unfold EK.vw
    dsimp only
    rw [h2]
    cases e : S[k] with
    | lst ds => rw [e] at q; exact .inr (.inl ⟨a, ds, rfl, rfl, q⟩)
    | dic es => rw [e] at q; exact .inr (.inr ⟨a, es, rfl, rfl, q⟩)
    | tab nm => exact .inl (.opq _)
theorem VwR.int {v : V} {i : Int} (h : VwR C H ρ v (.int i)) : v = .int i := by
  rcases h with h | ⟨_, _, _, e, _⟩ | ⟨_, _, _, e, _⟩
  · cases h; rfl
  · cases e
  · cases e
theorem VwR.bl {v : V} {i : Bool} (h : VwR C H ρ v (.bl i)) : v = .bl i := by
  rcases h with h | ⟨_, _, _, e, _⟩ | ⟨_, _, _, e, _⟩
  · cases h; rfl
  · cases e
  · cases e
theorem VwR.non {v : V} (h : VwR C H ρ v .non) : v = .non := by
  rcases h with h | ⟨_, _, _, e, _⟩ | ⟨_, _, _, e, _⟩
  · cases h; rfl
  · cases e
  · cases e
theorem VwR.str {v : V} {x : List Nat} (h : VwR C H ρ v (.str x)) : v = .str ⟨x.toArray⟩ := by
  rcases h with h | ⟨_, _, _, e, _⟩ | ⟨_, _, _, e, _⟩
  · cases h; rfl
  · cases e
  · cases e
theorem VwR.tup {v : V} {ds : List D} (h : VwR C H ρ v (.tup ds)) : ∃ a xs, v = .ref a ∧ TupAt C H ρ a xs ∧ RepA C H ρ xs ds := by
  rcases h with h | ⟨_, _, _, e, _⟩ | ⟨_, _, _, e, _⟩
  · cases h with | tup h r => exact ⟨_, _, rfl, h, r⟩
  · cases e
  · cases e
theorem VwR.lst {v : V} {ds : List D} (h : VwR C H ρ v (.lst ds)) : ∃ a xs, v = .ref a ∧ H a = some (.lst xs) ∧ RepA C H ρ xs ds := by
  rcases h with h | ⟨a, _, e1, e, q⟩ | ⟨_, _, _, e, _⟩
  · cases h with | lst h r => exact ⟨_, _, rfl, h.1, r⟩
  · cases e
    obtain ⟨xs, q1, q2⟩ := q
    exact ⟨a, xs, e1, q1, q2⟩
  · cases e
theorem VwR.dic {v : V} {es : List (Key × D)} (h : VwR C H ρ v (.dic es)) : ∃ a kvs, v = .ref a ∧ H a = some (.dK kvs) ∧ kvs.map (·.1) = es.map (·.1) ∧ RepA C H ρ (kvs.map (·.2)) (es.map (·.2)) := by
  rcases h with h | ⟨_, _, _, e, _⟩ | ⟨a, _, e1, e, q⟩
  · cases h with | dic h _ e r => exact ⟨_, _, rfl, h, e, r⟩
  · cases e
  · cases e
    obtain ⟨kvs, q1, q2, q3⟩ := q
    exact ⟨a, kvs, e1, q1, q2, q3⟩
theorem VwR.frz {v : V} {ds : List D} (h : VwR C H ρ v (.frz ds)) : ∃ a xs, v = .ref a ∧ SqL C.K H a xs ∧ RepA C H ρ xs ds := by
  rcases h with h | ⟨_, _, _, e, _⟩ | ⟨_, _, _, e, _⟩
  · cases h with | frz h r => exact ⟨_, _, rfl, h.sq, r⟩
  · cases e
  · cases e

/-! ### data as the library's PyData -/
mutual
def py : D → Option PyData
  | .non => some .none
  | .bl b => some (.bool b)
  | .int i => some (.int i)
  | .str s => some (.str ⟨s.toArray⟩)
  | .tup xs => (pyA xs).map .tuple
  | .lst xs => (pyA xs).map .list
  | .dic _ => none
  | .fn _ => none
  | .loc _ => none
  | .frz _ => none
  | .exc _ _ => none
  | .opq => none
  | .adr _ => none
def pyA : List D → Option (List PyData)
  | [] => some []
  | x :: xs => match py x, pyA xs with
    | some p, some ps => some (p :: ps)
    | _, _ => none
end
theorem pyA_cons {x : D} {xs : List D} {ps : List PyData} (h : pyA (x :: xs) = some ps) : ∃ p q, py x = some p ∧ pyA xs = some q ∧ ps = p :: q := by
  rw [pyA] at h
  split at h
  · rename_i p q e1 e2
    cases h
    exact ⟨p, q, e1, e2, rfl⟩
  · cases h
mutual
theorem RepD.dp : ∀ {v : V} {d : D} {p : PyData}, RepD C H ρ v d → py d = some p → Dp C.K H v p
  | _, _, _, .non, e => by rw [py] at e; cases e; exact .non
  | _, _, _, .bl b, e => by rw [py] at e; cases e; exact .bl b
  | _, _, _, .int i, e => by rw [py] at e; cases e; exact .int i
  | _, _, _, .str s, e => by rw [py] at e; cases e; exact .str _
  | _, _, _, .tup (ds := ds) h r, e => by
    rw [py] at e
    cases q : pyA ds with
    | none => rw [q] at e; cases e
    | some ps => rw [q] at e; cases e; exact .tup h.sq (RepA.dp r q)
  | _, _, _, .lst (ds := ds) h r, e => by
    rw [py] at e
    cases q : pyA ds with
    | none => rw [q] at e; cases e
    | some ps => rw [q] at e; cases e; exact .lst h.sq (RepA.dp r q)
  | _, _, _, .dic _ _ _ _, e => by rw [py] at e; cases e
  | _, _, _, .fn _, e => by rw [py] at e; cases e
  | _, _, _, .frz _ _, e => by rw [py] at e; cases e
  | _, _, _, .exc0 _ _ _, e => by rw [py] at e; cases e
  | _, _, _, .exc1 _ _ _ _ _ _, e => by rw [py] at e; cases e
  | _, _, _, .opq _, e => by rw [py] at e; cases e
  | _, _, _, .adr _, e => by rw [py] at e; cases e
theorem RepA.dp : ∀ {vs : List V} {ds : List D} {ps : List PyData}, RepA C H ρ vs ds → pyA ds = some ps → DpAll C.K H vs ps
  | _, _, _, .nil, e => by rw [pyA] at e; cases e; exact .nil
  | _, _, _, .cons h r, e => by
    obtain ⟨p, q, e1, e2, rfl⟩ := pyA_cons e
    exact .cons (RepD.dp h e1) (RepA.dp r e2)
end
theorem VwR.dp {v : V} {d : D} {p : PyData} (h : VwR C H ρ v d) (e : py d = some p) : Dp C.K H v p := by
  rcases h with h | ⟨a, ds, rfl, rfl, q⟩ | ⟨a, es, rfl, rfl, q⟩
  · exact h.dp e
  · rw [py] at e
    obtain ⟨xs, q1, q2⟩ := q
    cases z : pyA ds with
    | none => rw [z] at e; cases e
    | some ps => rw [z] at e; cases e; exact .lst (.inl (.inl q1)) (q2.dp z)
  · rw [py] at e; cases e
end

/-! ### operations on values, by data -/
def rP2 (C : Ct) (g : D → D → Option D) : R2 := fun x y H Q => ∃ ρ S d e z, StOk C H ρ S ∧ VwR C H ρ x d ∧ VwR C H ρ y e ∧ g d e = some z ∧
  ∀ v H', Nx H ρ H' ρ → StOk C H' ρ S → RepD C H' ρ v z → Q v H'
def rPn (C : Ct) (g : List D → Option D) : List V → Hp → VK → Prop := fun xs H Q => ∃ ρ S ds z, StOk C H ρ S ∧ Paired (VwR C H ρ) xs ds ∧ g ds = some z ∧
  ∀ v H', Nx H ρ H' ρ → StOk C H' ρ S → RepD C H' ρ v z → Q v H'
abbrev szL : Nat := 16777216
theorem szL_eq : sizeLine = szL := sizeLine_eq

section
variable {X : Cx} {C : Ct} {H : Hp} {ρ : Rg} {S : Sto} {z : D} {Q : VK}
/-- the result is a value that names no new object -/
theorem fin0 (s : StOk C H ρ S) (q : ∀ v H', Nx H ρ H' ρ → StOk C H' ρ S → RepD C H' ρ v z → Q v H') {v : V} (r : RepD C H ρ v z) : Q v H := q v H (Nx.refl H ρ) s r
theorem finL {xs : List V} {ds : List D} (s : StOk C H ρ S) (q : ∀ v H', Nx H ρ H' ρ → StOk C H' ρ S → RepD C H' ρ v (.lst ds) → Q v H') (r : RepA C H ρ xs ds) {p : Addr} (hp : H p = none) : Q (.ref p) (upd H p (.lst xs)) :=
  q _ _ (Nx.new hp) (s.new hp) (.lst ⟨upd_same, s.free hp⟩ (r.nx (Nx.new hp)))
theorem finT {xs : List V} {ds : List D} (s : StOk C H ρ S) (q : ∀ v H', Nx H ρ H' ρ → StOk C H' ρ S → RepD C H' ρ v (.tup ds) → Q v H') (r : RepA C H ρ xs ds) {p : Addr} (hp : H p = none) : Q (.ref p) (upd H p (.tup xs)) :=
  q _ _ (Nx.new hp) (s.new hp) (.tup (.inl ⟨.inl upd_same, s.free hp⟩) (r.nx (Nx.new hp)))

def addD : D → D → Option D
  | .int i, .int j => some (.int (i + j))
  | .str s, .str t => if s.length + t.length ≤ szL then some (.str (s ++ t)) else none
  | .lst xs, .lst ys => if xs.length + ys.length ≤ szL then some (.lst (xs ++ ys)) else none
  | .tup xs, .tup ys => if xs.length + ys.length ≤ szL then some (.tup (xs ++ ys)) else none
  | _, _ => none
theorem str_app (s t : List Nat) : (⟨s.toArray⟩ : Str) ++ (⟨t.toArray⟩ : Str) = ⟨(s ++ t).toArray⟩ := by
  show (⟨s.toArray ++ t.toArray⟩ : Str) = _
  simp
theorem str_len (s : List Nat) : (⟨s.toArray⟩ : Str).length = s.length := by
  show s.toArray.size = _
  simp
theorem op_addP (hK : X.K = C.K) : OpR X (binaryOp .Add) (rP2 C addD) := by
  intro pins s σ H x y v u Q I rx ry h
  obtain ⟨ρ, S, d, e, z, st, hx, hy, hg, q⟩ := h
  unfold addD at hg
  split at hg
  · cases hg
    obtain rfl := hx.int; obtain rfl := hy.int
    exact op_add pins s σ H _ _ v u Q I rx ry ⟨_, _, rfl, rfl, fin0 st q (.int _)⟩
  · split at hg
    · rename_i hl
      cases hg
      obtain rfl := hx.str; obtain rfl := hy.str
      refine op_add_str pins s σ H _ _ v u Q I rx ry ⟨_, _, rfl, rfl, ?_, ?_⟩
      · rw [str_len, str_len, szL_eq]; exact hl
      · rw [str_app]; exact fin0 st q (.str _)
    · cases hg
  · split at hg
    · rename_i hl
      cases hg
      obtain ⟨a, xs, rfl, ha, r1⟩ := hx.lst; obtain ⟨b, ys, rfl, hb, r2⟩ := hy.lst
      refine op_cat pins s σ H _ _ v u Q I rx ry ⟨_, _, _, _, rfl, rfl, ha, hb, ?_, fun p hp => finL st q (r1.append r2) hp⟩
      rw [r1.length, r2.length, szL_eq]; exact hl
    · cases hg
  · split at hg
    · rename_i hl
      cases hg
      obtain ⟨a, xs, rfl, ha, r1⟩ := hx.tup; obtain ⟨b, ys, rfl, hb, r2⟩ := hy.tup
      refine op_catA pins s σ H _ _ v u Q I rx ry ⟨_, _, _, _, rfl, rfl, by rw [hK]; exact ha.sq, by rw [hK]; exact hb.sq, ?_, fun e => ?_, fun _ e => ?_, fun _ _ p hp => finT st q (r1.append r2) hp⟩
      · rw [r1.length, r2.length, szL_eq]; exact hl
      · subst e; cases r1; exact fin0 st q (.tup hb r2)
      · subst e; cases r2; rw [List.append_nil] at q; exact fin0 st q (.tup ha r1)
    · cases hg
  · cases hg

def subD : D → D → Option D
  | .int i, .int j => some (.int (i - j))
  | _, _ => none
theorem op_subP : OpR X (binaryOp .Sub) (rP2 C subD) := by
  intro pins s σ H x y v u Q I rx ry h
  obtain ⟨ρ, S, d, e, z, st, hx, hy, hg, q⟩ := h
  unfold subD at hg
  split at hg
  · cases hg
    obtain rfl := hx.int; obtain rfl := hy.int
    exact op_sub pins s σ H _ _ v u Q I rx ry ⟨_, _, rfl, rfl, fin0 st q (.int _)⟩
  · cases hg
/-! the bounds are asked so that an open number stops the reckoning at once -/
def smallI : Int → Bool
  | .ofNat n => Nat.blt n 18446744073709551616
  | .negSucc n => Nat.blt n 18446744073709551615
def in62 : Int → Bool
  | .ofNat n => Nat.blt n 4611686018427387904
  | .negSucc n => Nat.blt n 4611686018427387904
theorem blt_iff {m n : Nat} : Nat.blt m n = true ↔ m < n := by
  unfold Nat.blt
  rw [Nat.ble_eq]; rfl
theorem in62_iff {i : Int} : in62 i = true ↔ (-(2 ^ 62) ≤ i ∧ i < 2 ^ 62) := by
  cases i with
  | ofNat n =>
    show Nat.blt n _ = true ↔ _
    rw [blt_iff]
    have e : Int.ofNat n = (n : Int) := rfl
    rw [e]; omega
  | negSucc n =>
    show Nat.blt n _ = true ↔ _
    rw [blt_iff, Int.negSucc_eq]; omega
def mulOkB (i j : Int) : Bool := smallI i || smallI j || decide (i.natAbs.log2 + j.natAbs.log2 < 1000000)
theorem smallI_iff {i : Int} : smallI i = true ↔ (-(2 ^ 64) < i ∧ i < 2 ^ 64) := by
  cases i with
  | ofNat n =>
    show Nat.blt n _ = true ↔ _
    rw [blt_iff]
    have e : Int.ofNat n = (n : Int) := rfl
    rw [e]; omega
  | negSucc n =>
    show Nat.blt n _ = true ↔ _
    rw [blt_iff, Int.negSucc_eq]; omega
def mulD : D → D → Option D
  | .int i, .int j => if mulOkB i j = true then some (.int (i * j)) else none
  | .str s, .int n => if n < 1 then (if in62 n = true then some (.str []) else none) else if s.length * n.toNat ≤ szL ∧ n.toNat < 2147483648 then some (.str (List.replicate n.toNat s).flatten) else none
  | .lst xs, .int n => if in62 n = true ∧ xs.length * n.toNat ≤ szL then some (.lst (List.replicate n.toNat xs).flatten) else none
  | .tup xs, .int n => if xs = [] then (if 0 ≤ n ∧ n ≤ 1000 then some (.tup []) else none) else if n = 0 then some (.tup []) else if n = 1 then some (.tup xs) else if 2 ≤ n ∧ n ≤ 1000 ∧ xs.length ≤ 1000 then some (.tup (List.replicate n.toNat xs).flatten) else none
  | _, _ => none
theorem foldl_app (l : List (Array Nat)) : ∀ acc : Array Nat, (l.foldl (· ++ ·) acc).toList = acc.toList ++ (l.map (·.toList)).flatten := by
  induction l with
  | nil => intro acc; simp
  | cons a l ih => intro acc; rw [List.foldl_cons, ih]; simp
theorem txt_mul (s : List Nat) {n : Int} (h : ¬ n < 1) : Txt.mul ⟨s.toArray⟩ n = ⟨((List.replicate n.toNat s).flatten).toArray⟩ := by
  unfold Txt.mul
  rw [if_neg h]
  split
  · rename_i h1
    rw [Bool.or_eq_true] at h1
    rcases h1 with h1 | h1
    · rw [beq_iff_eq] at h1
      subst h1
      show _ = (⟨((List.replicate 1 s).flatten).toArray⟩ : Str)
      simp
    · rw [beq_iff_eq, str_len] at h1
      have : s = [] := List.eq_nil_of_length_eq_zero h1
      subst this
      have : ∀ k, (List.replicate k ([] : List Nat)).flatten = [] := by
        intro k; induction k with
        | zero => rfl
        | succ k ih => rw [List.replicate_succ, List.flatten_cons, ih]; rfl
      rw [this]
  · have e := foldl_app (List.replicate n.toNat s.toArray) #[]
    have e2 : (List.replicate n.toNat s.toArray).foldl (· ++ ·) #[] = ((List.replicate n.toNat s).flatten).toArray := by
      apply Array.toList_inj.mp
      rw [e]
      simp
    show (⟨(List.replicate n.toNat s.toArray).foldl (· ++ ·) #[]⟩ : Str) = _
    rw [e2]
theorem op_mulP (hK : X.K = C.K) : OpR X (binaryOp .Mult) (rP2 C mulD) := by
  intro pins s σ H x y v u Q I rx ry h
  obtain ⟨ρ, S, d, e, z, st, hx, hy, hg, q⟩ := h
  unfold mulD at hg
  split at hg
  · split at hg
    · rename_i hm
      cases hg
      obtain rfl := hx.int; obtain rfl := hy.int
      unfold mulOkB at hm
      rw [Bool.or_eq_true, Bool.or_eq_true, smallI_iff, smallI_iff, decide_eq_true_iff] at hm
      rcases hm with (hm | hm) | hm
      · exact op_mul pins s σ H _ _ v u Q I rx ry ⟨_, _, rfl, rfl, .inl hm, fin0 st q (.int _)⟩
      · exact op_mul pins s σ H _ _ v u Q I rx ry ⟨_, _, rfl, rfl, .inr hm, fin0 st q (.int _)⟩
      · exact op_mulW pins s σ H _ _ v u Q I rx ry ⟨_, _, rfl, rfl, hm, fin0 st q (.int _)⟩
    · cases hg
  · rename_i w n
    obtain rfl := hx.str; obtain rfl := hy.int
    obtain ⟨t, rfl⟩ := rx
    obtain ⟨t', rfl⟩ := ry
    split at hg
    · rename_i h1
      split at hg
      · rename_i h2
        cases hg
        have h2 := (in62_iff.mp h2).1
        refine SB.mul ⟨?_, fun z => absurd h1 z, fun z => absurd h1 z⟩ fun t' k => ?_
        · rw [decide_eq_false (by omega), decide_eq_false (by omega)]; rfl
        · refine ⟨.str ⟨#[]⟩, H, I.tok _, ?_, fin0 st q (.str [])⟩
          have : Txt.mul ⟨w.toArray⟩ n = ⟨#[]⟩ := by unfold Txt.mul; rw [if_pos h1]; rfl
          rw [this]; exact ⟨_, rfl⟩
      · cases hg
    · rename_i h1
      split at hg
      · rename_i h2
        cases hg
        have hn : n < 2 ^ 31 := by have := h2.2; omega
        refine SB.mul ⟨?_, fun _ _ => ?_, fun _ _ => ?_⟩ fun t' k => ?_
        · rw [decide_eq_false (by omega), decide_eq_false (by omega)]; rfl
        · have h3 : w.length * n.toNat ≤ szL := h2.1
          rw [str_len]
          intro h4
          have h6 : (w.length : Int) * n > 2 ^ 63 - 1 := by
            have : (2 ^ 63 - 1) / n < (w.length : Int) := h4
            have := Int.ediv_lt_iff_lt_mul (show 0 < n by omega) |>.mp this
            exact this
          have h7 : ((w.length * n.toNat : Nat) : Int) = (w.length : Int) * n := by
            rw [Int.natCast_mul, Int.toNat_of_nonneg (by omega)]
          have h8 : ((w.length * n.toNat : Nat) : Int) ≤ (szL : Int) := Int.ofNat_le.mpr h3
          have : (szL : Int) = 16777216 := rfl
          omega
        · rw [str_len]
          have h3 : w.length * n.toNat ≤ szL := h2.1
          show decide (_ > sizeLine) = false
          exact decide_eq_false (by rw [szL_eq]; omega)
        · refine ⟨.str ⟨((List.replicate n.toNat w).flatten).toArray⟩, H, I.tok _, ?_, fin0 st q (.str _)⟩
          rw [txt_mul w h1]; exact ⟨_, rfl⟩
      · cases hg
  · split at hg
    · rename_i h1
      cases hg
      obtain ⟨a, xs, rfl, ha, r1⟩ := hx.lst; obtain rfl := hy.int
      obtain ⟨i1, i2⟩ := in62_iff.mp h1.1
      refine op_rep pins s σ H _ _ v u Q I rx ry ⟨_, _, _, rfl, rfl, ha, by omega, by omega, ?_, fun p hp => finL st q (r1.rep _) hp⟩
      rw [r1.length, szL_eq]; exact h1.2
    · cases hg
  · split at hg
    · rename_i he
      subst he
      split at hg
      · rename_i hr
        cases hg
        obtain ⟨a, xs, rfl, ha, r1⟩ := hx.tup; obtain rfl := hy.int
        have r1' := r1
        cases r1
        have hsq : SqT X.K H a [] := by rw [hK]; exact ha.sq
        exact op_tm0 pins s σ H _ _ v u Q I rx ry ⟨_, _, rfl, rfl, hsq, hr.1, hr.2, fin0 st q (.tup ha r1')⟩
      · cases hg
    · rename_i hne
      obtain ⟨a, xs, rfl, ha, r1⟩ := hx.tup; obtain rfl := hy.int
      have hsq : SqT X.K H a xs := by rw [hK]; exact ha.sq
      have hne' : xs ≠ [] := fun e => by
        subst e
        cases r1
        exact hne rfl
      split at hg
      · rename_i h0
        subst h0
        cases hg
        exact op_tm pins s σ H _ _ v u Q I rx ry ⟨_, _, _, rfl, rfl, hsq, hne', .inr ⟨rfl, fun p hp => finT st q .nil hp⟩⟩
      · split at hg
        · rename_i h1
          subst h1
          cases hg
          exact op_tm pins s σ H _ _ v u Q I rx ry ⟨_, _, _, rfl, rfl, hsq, hne', .inl ⟨rfl, fin0 st q (.tup ha r1)⟩⟩
        · split at hg
          · rename_i h2
            cases hg
            exact op_repT pins s σ H _ _ v u Q I rx ry ⟨_, _, _, rfl, rfl, hsq, hne', h2.1, h2.2.1, by rw [r1.length]; exact h2.2.2, fun p hp => finT st q (r1.rep _) hp⟩
          · cases hg
  · cases hg
def fdivD : D → D → Option D
  | .int i, .int j => if 0 < j ∧ j.natAbs.log2 < 9000 then some (.int (i / j)) else none
  | _, _ => none
theorem op_fdivP : OpR X (binaryOp .FloorDiv) (rP2 C fdivD) := by
  intro pins s σ H x y v u Q I rx ry h
  obtain ⟨ρ, S, d, e, z, st, hx, hy, hg, q⟩ := h
  unfold fdivD at hg
  split at hg
  · split at hg
    · rename_i hm
      cases hg
      obtain rfl := hx.int; obtain rfl := hy.int
      exact op_fdivW pins s σ H _ _ v u Q I rx ry ⟨_, _, rfl, rfl, hm, fin0 st q (.int _)⟩
    · cases hg
  · cases hg
def modD : D → D → Option D
  | .int i, .int j => if 0 < j then some (.int (i % j)) else if j < 0 then some (.int (i.fmod j)) else none
  | _, _ => none
theorem op_modP : OpR X (binaryOp .Mod) (rP2 C modD) := by
  intro pins s σ H x y v u Q I rx ry h
  obtain ⟨ρ, S, d, e, z, st, hx, hy, hg, q⟩ := h
  unfold modD at hg
  split at hg
  · obtain rfl := hx.int; obtain rfl := hy.int
    split at hg
    · rename_i hm
      cases hg
      exact op_mod pins s σ H _ _ v u Q I rx ry ⟨_, _, rfl, rfl, hm, fin0 st q (.int _)⟩
    · split at hg
      · rename_i hm
        cases hg
        exact op_modN pins s σ H _ _ v u Q I rx ry ⟨_, _, rfl, rfl, by omega, fin0 st q (.int _)⟩
      · cases hg
  · cases hg
def powD : D → D → Option D
  | .int i, .int j => if 0 ≤ j ∧ j ≤ 1000000 ∧ i.natAbs < 2 ^ 64 then some (.int (i ^ j.toNat)) else none
  | _, _ => none
theorem op_powP : OpR X (binaryOp .Pow) (rP2 C powD) := by
  intro pins s σ H x y v u Q I rx ry h
  obtain ⟨ρ, S, d, e, z, st, hx, hy, hg, q⟩ := h
  unfold powD at hg
  split at hg
  · split at hg
    · rename_i hm
      cases hg
      obtain rfl := hx.int; obtain rfl := hy.int
      exact op_pow pins s σ H _ _ v u Q I rx ry ⟨_, _, rfl, rfl, hm, fin0 st q (.int _)⟩
    · cases hg
  · cases hg
@[simp] def binD : Operator → D → D → Option D
  | .Add => addD
  | .Sub => subD
  | .Mult => mulD
  | .FloorDiv => fdivD
  | .Mod => modD
  | .Pow => powD
  | _ => fun _ _ => none
theorem op_none {f : Value → Value → Sem Value} : OpR X f (rP2 C fun _ _ => none) := by
  intro pins s σ H x y v u Q I rx ry h
  obtain ⟨ρ, S, d, e, z, st, hx, hy, hg, q⟩ := h
  cases hg
theorem op_binP (hK : X.K = C.K) (op : Operator) : OpR X (binaryOp op) (rP2 C (binD op)) := by
  cases op <;> first | exact op_addP hK | exact op_subP | exact op_mulP hK | exact op_fdivP | exact op_modP | exact op_powP | exact op_none
end
end EK

set_option Elab.async false
set_option linter.all false
set_option maxRecDepth 100000
set_option maxHeartbeats 4000000
namespace EK
open PySem L2 PyProof.Rows PySem.Spec
section
variable {X : Cx} {C : Ct} {H : Hp} {ρ : Rg} {S : Sto} {z : D} {Q : VK}
/-! ### comparisons -/
def eqB : D → D → Option Bool
  | .int i, .int j => some (decide (i = j))
  | .str s, .str t => some (decide (s = t))
  | .bl a, .bl b => some (decide (a = b))
  | .non, .non => some true
  | a, b => match py a, py b with
    | some p, some q => if SeqAt.shaped p = true ∧ SeqAt.shaped q = true then some (PyData.eqv p q) else none
    | _, _ => none
theorem str_eq {s t : List Nat} : decide (V.str ⟨s.toArray⟩ = V.str ⟨t.toArray⟩) = decide (s = t) := by
  by_cases h : s = t
  · subst h; simp
  · rw [decide_eq_false h, decide_eq_false]
    intro e
    injection e with e
    injection e with e
    exact h (by simpa using congrArg Array.toList e)
theorem int_eq {i j : Int} : decide (V.int i = V.int j) = decide (i = j) := by
  rw [dec_int, Bool.eq_iff_iff]; simp
theorem bl_eq {i j : Bool} : decide (V.bl i = V.bl j) = decide (i = j) := by
  rw [dec_bl, Bool.eq_iff_iff]; simp
/-- the two rules of == at once: the answer by a Bool -/
theorem eq_core {op : CmpOp} {f : Bool → Bool} (hK : X.K = C.K)
    (h1 : OpR X (compareOp op) (fun x y H Q => scal x y = true ∧ Q (.bl (f (decide (x = y)))) H))
    (h2 : OpR X (compareOp op) (fun x y H Q => ∃ d e, Dp X.K H x d ∧ Dp X.K H y e ∧ SeqAt.shaped d = true ∧ SeqAt.shaped e = true ∧ Q (.bl (f (PyData.eqv d e))) H)) :
    OpR X (compareOp op) (rP2 C fun a b => (eqB a b).map fun k => .bl (f k)) := by
  intro pins s σ H x y v u Q I rx ry h
  obtain ⟨ρ, S, d, e, z, st, hx, hy, hg, q⟩ := h
  dsimp only at hg
  cases hb : eqB d e with
  | none => rw [hb] at hg; cases hg
  | some k =>
    rw [hb] at hg
    cases hg
    unfold eqB at hb
    split at hb
    · cases hb
      obtain rfl := hx.int; obtain rfl := hy.int
      refine h1 pins s σ H _ _ v u Q I rx ry ⟨rfl, ?_⟩
      rw [int_eq]; exact fin0 st q (.bl _)
    · cases hb
      obtain rfl := hx.str; obtain rfl := hy.str
      refine h1 pins s σ H _ _ v u Q I rx ry ⟨rfl, ?_⟩
      rw [str_eq]; exact fin0 st q (.bl _)
    · cases hb
      obtain rfl := hx.bl; obtain rfl := hy.bl
      refine h1 pins s σ H _ _ v u Q I rx ry ⟨rfl, ?_⟩
      rw [bl_eq]; exact fin0 st q (.bl _)
    · cases hb
      obtain rfl := hx.non; obtain rfl := hy.non
      exact h1 pins s σ H _ _ v u Q I rx ry ⟨rfl, fin0 st q (.bl _)⟩
    · split at hb
      · rename_i p r e1 e2
        split at hb
        · rename_i hs
          cases hb
          exact h2 pins s σ H _ _ v u Q I rx ry ⟨p, r, by rw [hK]; exact hx.dp e1, by rw [hK]; exact hy.dp e2, hs.1, hs.2, fin0 st q (.bl _)⟩
        · cases hb
      · cases hb

def nonePy : PyData → Bool
  | .none => true
  | _ => false
/-- a < b: ints, or data that are alike -/
def ltB : D → D → Option Bool
  | .int i, .int j => some (decide (i < j))
  | a, b => match py a, py b with
    | some p, some q => if PySem.W.alike p q = true ∧ nonePy p = false ∧ p.depth ≤ 64 then some (PySem.W.dataLt p q) else none
    | _, _ => none
theorem nonePy_ne {p : PyData} (h : nonePy p = false) : p ≠ .none := by
  intro e; subst e; cases h
theorem lt_core {op : CmpOp} {f : Bool → Bool} (hK : X.K = C.K)
    (h1 : OpR X (compareOp op) (rI0 fun i j => .bl (f (decide (i < j)))))
    (h2 : ∀ (s : Shared) (E : Value → Shared → Prop) (a b : Value) (da db : PyData) (as bs : List Addr) (Q : Value → Shared → Prop), Reads s.heap a da as → Reads s.heap b db bs → PySem.W.alike da db = true → da ≠ .none → X.A.units + min da.depth db.depth < cLine → Q (.bool (f (PySem.W.dataLt da db))) s →
      wpAny (model X.prog X.w) X.A (compareOp op a b) Q E s) (hu : X.A.units + 64 < cLine) :
    OpR X (compareOp op) (rP2 C fun a b => (ltB a b).map fun k => .bl (f k)) := by
  intro pins s σ H x y v u Q I rx ry h
  obtain ⟨ρ, S, d, e, z, st, hx, hy, hg, q⟩ := h
  dsimp only at hg
  cases hb : ltB d e with
  | none => rw [hb] at hg; cases hg
  | some k =>
    rw [hb] at hg
    cases hg
    unfold ltB at hb
    split at hb
    · cases hb
      obtain rfl := hx.int; obtain rfl := hy.int
      exact h1 pins s σ H _ _ v u Q I rx ry ⟨_, _, rfl, rfl, fin0 st q (.bl _)⟩
    · split at hb
      · rename_i p r e1 e2
        split at hb
        · rename_i hs
          cases hb
          obtain ⟨as, r1⟩ := Dp.reads I p x v (by rw [hK]; exact hx.dp e1) rx
          obtain ⟨bs, r2⟩ := Dp.reads I r y u (by rw [hK]; exact hy.dp e2) ry
          exact h2 s _ v u p r as bs _ r1 r2 hs.1 (nonePy_ne hs.2.1) (by have := hs.2.2; have := Nat.min_le_left p.depth r.depth; omega) ⟨.bl _, H, I, rfl, fin0 st q (.bl _)⟩
        · cases hb
      · cases hb
/-- the other way round -/
theorem gt_core {op : CmpOp} {f : Bool → Bool} (hK : X.K = C.K)
    (h1 : OpR X (compareOp op) (rI0 fun i j => .bl (f (decide (j < i)))))
    (h2 : ∀ (s : Shared) (E : Value → Shared → Prop) (a b : Value) (da db : PyData) (as bs : List Addr) (Q : Value → Shared → Prop), Reads s.heap a da as → Reads s.heap b db bs → PySem.W.alike da db = true → da ≠ .none → X.A.units + min da.depth db.depth < cLine → Q (.bool (f (PySem.W.dataLt db da))) s →
      wpAny (model X.prog X.w) X.A (compareOp op a b) Q E s) (hu : X.A.units + 64 < cLine) :
    OpR X (compareOp op) (rP2 C fun a b => (ltB b a).map fun k => .bl (f k)) := by
  intro pins s σ H x y v u Q I rx ry h
  obtain ⟨ρ, S, d, e, z, st, hx, hy, hg, q⟩ := h
  dsimp only at hg
  cases hb : ltB e d with
  | none => rw [hb] at hg; cases hg
  | some k =>
    rw [hb] at hg
    cases hg
    unfold ltB at hb
    split at hb
    · cases hb
      obtain rfl := hx.int; obtain rfl := hy.int
      exact h1 pins s σ H _ _ v u Q I rx ry ⟨_, _, rfl, rfl, fin0 st q (.bl _)⟩
    · split at hb
      · rename_i p r e1 e2
        split at hb
        · rename_i hs
          cases hb
          obtain ⟨as, r1⟩ := Dp.reads I r x v (by rw [hK]; exact hx.dp e2) rx
          obtain ⟨bs, r2⟩ := Dp.reads I p y u (by rw [hK]; exact hy.dp e1) ry
          have ha : PySem.W.alike r p = true := by rw [PySem.W.alike_comm]; exact hs.1
          have hn : r ≠ .none := PySem.W.ne_none_both (x := p) hs.1 (nonePy_ne hs.2.1)
          exact h2 s _ v u r p as bs _ r1 r2 ha hn (by have := hs.2.2; have := Nat.min_le_right r.depth p.depth; omega) ⟨.bl _, H, I, rfl, fin0 st q (.bl _)⟩
        · cases hb
      · cases hb
def flatD : D → Bool
  | .non => true
  | .bl _ => true
  | .int _ => true
  | .str _ => true
  | _ => false
def eqFl : D → D → Bool
  | .non, .non => true
  | .bl a, .bl b => a == b
  | .bl a, .int b => (if a then 1 else 0) == b
  | .int a, .bl b => a == (if b then 1 else 0)
  | .int a, .int b => a == b
  | .str a, .str b => decide (a = b)
  | _, _ => false
theorem RepD.flat {v : V} {d : D} (h : RepD C H ρ v d) (hf : flatD d = true) : flatV v = true := by
  cases h <;> first | rfl | cases hf
theorem RepD.eqFl {v w : V} {d e : D} (h : RepD C H ρ v d) (hd : flatD d = true) (h' : RepD C H ρ w e) (he : flatD e = true) : eqV v w = eqFl d e := by
  cases h <;> first | (cases hd; done) | (cases h' <;> first | rfl | (cases he; done) | (show (Str.mk _ == Str.mk _) = decide _; exact (dec_str.symm.trans str_eq)))
theorem RepA.flat : ∀ {vs : List V} {ds : List D}, RepA C H ρ vs ds → ds.all flatD = true → vs.all flatV = true
  | _, _, .nil, _ => rfl
  | _, _, .cons h r, e => by
    rw [List.all_cons, Bool.and_eq_true] at e
    rw [List.all_cons, Bool.and_eq_true]
    exact ⟨h.flat e.1, RepA.flat r e.2⟩
theorem RepA.anyFl {w : V} {e : D} (h' : RepD C H ρ w e) (he : flatD e = true) : ∀ {vs : List V} {ds : List D}, RepA C H ρ vs ds → ds.all flatD = true → inV w vs = ds.any (fun y => EK.eqFl y e)
  | _, _, .nil, _ => rfl
  | _, _, .cons (v := v) (d := d) h r, a => by
    rw [List.all_cons, Bool.and_eq_true] at a
    have ih := RepA.anyFl h' he r a.2
    unfold inV at ih ⊢
    rw [List.any_cons, List.any_cons, ih, h.eqFl a.1 h' he]
theorem VwR.flatD {v : V} {d : D} (h : VwR C H ρ v d) (hf : EK.flatD d = true) : RepD C H ρ v d := by
  rcases h with h | ⟨_, _, _, rfl, _⟩ | ⟨_, _, _, rfl, _⟩
  · exact h
  · cases hf
  · cases hf
/-- x in y: a sign in a text; flat things in a list or a tuple; data in a list -/
def keyD : D → Option Key
  | .int i => some (.inl i)
  | .str s => some (.inr ⟨s.toArray⟩)
  | _ => none
theorem VwR.key {y : V} {d : D} {k : Key} (h : VwR C H ρ y d) (e : keyD d = some k) : y = kV k := by
  unfold keyD at e
  split at e
  · cases e; exact h.int
  · cases e; exact h.str
  · cases e
/-- whether a dict has a key -/
def hasK (es : List (Key × D)) (k : Key) : Bool := es.any fun kv => decide (kv.1 = k)
theorem hasK_eq {k : Key} : ∀ {kvs : List (Key × V)} {es : List (Key × D)}, kvs.map (·.1) = es.map (·.1) → (valV kvs k).isSome = hasK es k
  | [], [], _ => rfl
  | [], _ :: _, e => by cases e
  | _ :: _, [], e => by cases e
  | p :: kvs, q :: es, e => by
    have e1 : p.1 = q.1 := (List.cons.inj e).1
    have ih := hasK_eq (k := k) (List.cons.inj e).2
    unfold valV hasK at ih ⊢
    rw [List.find?_cons, List.any_cons, e1]
    by_cases hk : q.1 = k
    · rw [decide_eq_true hk]; rfl
    · rw [decide_eq_false hk, Bool.false_or]; exact ih
/-- one text in another one -/
def infB (s t : List Nat) : Bool := (List.range (t.length + 1)).any fun i => decide ((t.drop i).take s.length = s)
theorem infB_ok (s t : List Nat) : (!(Builtin.Str.occurrences ⟨t.toArray⟩ ⟨s.toArray⟩ 0 (⟨t.toArray⟩ : Str).length 1).isEmpty) = infB s t := by
  rw [Bool.eq_iff_iff, PySem.StrLaws.found_iff]
  unfold infB
  rw [List.any_eq_true]
  have l1 : (⟨s.toArray⟩ : Str).length = s.length := by simp [Str.length]
  have l2 : (⟨t.toArray⟩ : Str).length = t.length := by simp [Str.length]
  constructor
  · rintro ⟨i, h1, h2⟩
    rw [PySem.StrLaws.subAt_eq, beq_iff_eq, l1] at h2
    exact ⟨i, List.mem_range.mpr (by omega), decide_eq_true (by simpa using h2)⟩
  · rintro ⟨i, h1, h2⟩
    rw [decide_eq_true_iff] at h2
    refine ⟨i, ?_, ?_⟩
    · have := congrArg List.length h2
      rw [List.length_take, List.length_drop] at this
      have := List.mem_range.mp h1
      omega
    · rw [PySem.StrLaws.subAt_eq, beq_iff_eq, l1]
      simpa using h2
def inB : D → D → Option Bool
  | .str [c], .str t => some (decide (c ∈ t))
  | .str s, .str t => some (infB s t)
  | x, .tup ys => if flatD x = true ∧ ys.all flatD = true then some (ys.any fun y => eqFl y x) else
    match py x, pyA ys with
    | some p, some qs => if SeqAt.shaped p = true ∧ SeqAt.shaped (.tuple qs) = true then some (qs.any fun z => PyData.eqv z p) else none
    | _, _ => none
  | x, .lst ys => if flatD x = true ∧ ys.all flatD = true then some (ys.any fun y => eqFl y x) else
    match py x, pyA ys with
    | some p, some qs => if SeqAt.shaped p = true ∧ SeqAt.shaped (.list qs) = true then some (qs.any fun z => PyData.eqv z p) else none
    | _, _ => none
  | x, .dic es => (keyD x).map (hasK es)
  | _, _ => none
theorem op_inTD (hu : X.A.units + 65 < cLine) : OpR X (compareOp .In) (fun x y H Q => ∃ d ds, Dp X.K H x d ∧ Dp X.K H y (.tuple ds) ∧ SeqAt.shaped d = true ∧ SeqAt.shaped (.tuple ds) = true ∧ Q (.bl (ds.any fun z => PyData.eqv z d)) H) := by
  intro pins s σ H x y v u Q I rx ry h
  obtain ⟨d, ds, hd, he, sd, se, q⟩ := h
  obtain ⟨as, q1⟩ := Dp.reads I d x v hd rx
  obtain ⟨bs, q2⟩ := Dp.reads I (.tuple ds) y u he ry
  exact SeqAt.in_tuple_reads q2 q1 (SeqAt.canLay_of_shaped se) (SeqAt.canLay_of_shaped sd) (room_in_shaped sd hu) ⟨.bl _, H, I, rfl, q⟩
theorem op_notInTD (hu : X.A.units + 65 < cLine) : OpR X (compareOp .NotIn) (fun x y H Q => ∃ d ds, Dp X.K H x d ∧ Dp X.K H y (.tuple ds) ∧ SeqAt.shaped d = true ∧ SeqAt.shaped (.tuple ds) = true ∧ Q (.bl (!ds.any fun z => PyData.eqv z d)) H) := by
  intro pins s σ H x y v u Q I rx ry h
  obtain ⟨d, ds, hd, he, sd, se, q⟩ := h
  obtain ⟨as, q1⟩ := Dp.reads I d x v hd rx
  obtain ⟨bs, q2⟩ := Dp.reads I (.tuple ds) y u he ry
  exact SeqAt.notIn_tuple_reads q2 q1 (SeqAt.canLay_of_shaped se) (SeqAt.canLay_of_shaped sd) (room_in_shaped sd hu) ⟨.bl _, H, I, rfl, q⟩
theorem op_in_dic (hu : X.A.units + 1 < cLine) : OpR X (compareOp .In) (fun x y H Q => ∃ a o, y = .ref a ∧ DGet H a x o ∧ Q (.bl o.isSome) H) := by
  intro pins s σ H x y v u Q I rx ry h
  obtain ⟨a, o, rfl, g, q⟩ := h
  cases ry
  exact d_in hu I g rx fun s' I' => ⟨.bl o.isSome, H, I', rfl, q⟩
theorem op_notIn_dic (hu : X.A.units + 1 < cLine) : OpR X (compareOp .NotIn) (fun x y H Q => ∃ a o, y = .ref a ∧ DGet H a x o ∧ Q (.bl (!o.isSome)) H) := by
  intro pins s σ H x y v u Q I rx ry h
  obtain ⟨a, o, rfl, g, q⟩ := h
  cases ry
  exact d_notIn hu I g rx fun s' I' => ⟨.bl (!o.isSome), H, I', rfl, q⟩
theorem in_core {op : CmpOp} {f : Bool → Bool} (hK : X.K = C.K)
    (h0 : OpR X (compareOp op) (fun x y H Q => ∃ (c : Nat) (z : Str), x = .str ⟨#[c]⟩ ∧ y = .str z ∧ Q (.bl (f (decide (c ∈ z.cps.toList)))) H))
    (h9 : OpR X (compareOp op) (fun x y H Q => ∃ i j, x = .str i ∧ y = .str j ∧ Q (.bl (f (!(Builtin.Str.occurrences j i 0 j.length 1).isEmpty))) H))
    (h1 : OpR X (compareOp op) (fun x y H Q => ∃ p xs, y = .ref p ∧ (SqL X.K H p xs ∨ SqT X.K H p xs) ∧ flatV x = true ∧ xs.all flatV = true ∧ Q (.bl (f (inV x xs))) H))
    (h2 : OpR X (compareOp op) (fun x y H Q => ∃ d ds, Dp X.K H x d ∧ Dp X.K H y (.list ds) ∧ SeqAt.shaped d = true ∧ SeqAt.shaped (.list ds) = true ∧ Q (.bl (f (ds.any fun z => PyData.eqv z d))) H))
    (h4 : OpR X (compareOp op) (fun x y H Q => ∃ d ds, Dp X.K H x d ∧ Dp X.K H y (.tuple ds) ∧ SeqAt.shaped d = true ∧ SeqAt.shaped (.tuple ds) = true ∧ Q (.bl (f (ds.any fun z => PyData.eqv z d))) H))
    (h3 : OpR X (compareOp op) (fun x y H Q => ∃ a o, y = .ref a ∧ DGet H a x o ∧ Q (.bl (f o.isSome)) H)) :
    OpR X (compareOp op) (rP2 C fun a b => (inB a b).map fun k => .bl (f k)) := by
  intro pins s σ H x y v u Q I rx ry h
  obtain ⟨ρ, S, d, e, z, st, hx, hy, hg, q⟩ := h
  dsimp only at hg
  cases hb : inB d e with
  | none => rw [hb] at hg; cases hg
  | some k =>
    rw [hb] at hg
    cases hg
    unfold inB at hb
    split at hb
    · cases hb
      obtain rfl := hx.str; obtain rfl := hy.str
      exact h0 pins s σ H _ _ v u Q I rx ry ⟨_, _, rfl, rfl, fin0 st q (.bl _)⟩
    · cases hb
      obtain rfl := hx.str; obtain rfl := hy.str
      refine h9 pins s σ H _ _ v u Q I rx ry ⟨_, _, rfl, rfl, ?_⟩
      rw [infB_ok]; exact fin0 st q (.bl _)
    · split at hb
      · rename_i hs
        cases hb
        obtain ⟨a, xs, rfl, ha, r⟩ := hy.tup
        have hd := hx.flatD hs.1
        have e := RepA.anyFl hd hs.1 r hs.2
        refine h1 pins s σ H _ _ v u Q I rx ry ⟨_, _, rfl, .inr (by rw [hK]; exact ha.sq), hd.flat hs.1, r.flat hs.2, ?_⟩
        rw [e]; exact fin0 st q (.bl _)
      · split at hb
        · rename_i p qs e1 e2
          split at hb
          · rename_i hs
            cases hb
            refine h4 pins s σ H _ _ v u Q I rx ry ⟨p, qs, by rw [hK]; exact hx.dp e1, ?_, hs.1, hs.2, fin0 st q (.bl _)⟩
            rw [hK]
            refine hy.dp ?_
            rw [py, e2]; rfl
          · cases hb
        · cases hb
    · obtain ⟨a, xs, ey, ha, r⟩ := hy.lst
      split at hb
      · rename_i hs
        cases hb
        subst ey
        have hd := hx.flatD hs.1
        have e := RepA.anyFl hd hs.1 r hs.2
        refine h1 pins s σ H _ _ v u Q I rx ry ⟨_, _, rfl, .inl (.inl (.inl ha)), hd.flat hs.1, r.flat hs.2, ?_⟩
        rw [e]; exact fin0 st q (.bl _)
      · split at hb
        · rename_i p qs e1 e2
          split at hb
          · rename_i hs
            cases hb
            refine h2 pins s σ H _ _ v u Q I rx ry ⟨p, qs, by rw [hK]; exact hx.dp e1, ?_, hs.1, hs.2, fin0 st q (.bl _)⟩
            rw [hK]
            refine hy.dp ?_
            rw [py, e2]; rfl
          · cases hb
        · cases hb
    · cases ek : keyD d with
      | none => rw [ek] at hb; cases hb
      | some kk =>
        rw [ek] at hb
        cases hb
        obtain ⟨a, kvs, rfl, ha, e1, _⟩ := hy.dic
        have hk := hx.key ek
        subst hk
        refine h3 pins s σ H _ _ v u Q I rx ry ⟨a, _, rfl, DGet.k ha, ?_⟩
        rw [hasK_eq e1]; exact fin0 st q (.bl _)
    · cases hb
def isNB : D → D → Option Bool
  | .non, .non => some true
  | .bl _, .non => some false
  | .int _, .non => some false
  | .str _, .non => some false
  | .tup _, .non => some false
  | .lst _, .non => some false
  | .dic _, .non => some false
  | .exc _ _, .non => some false
  | _, _ => none
theorem VwR.isN {x : V} {d : D} {k : Bool} (h : VwR C H ρ x d) (e : isNB d .non = some k) : decide (x = .non) = k := by
  rcases h with h | ⟨a, ds, rfl, rfl, _⟩ | ⟨a, ds, rfl, rfl, _⟩
  · cases h <;> cases e <;> rfl
  · cases e; rfl
  · cases e; rfl
theorem is_core {op : CmpOp} {f : Bool → Bool} (h1 : OpR X (compareOp op) (fun x y H Q => y = .non ∧ Q (.bl (f (decide (x = .non)))) H)) :
    OpR X (compareOp op) (rP2 C fun a b => (isNB a b).map fun k => .bl (f k)) := by
  intro pins s σ H x y v u Q I rx ry h
  obtain ⟨ρ, S, d, e, z, st, hx, hy, hg, q⟩ := h
  dsimp only at hg
  cases hb : isNB d e with
  | none => rw [hb] at hg; cases hg
  | some k =>
    rw [hb] at hg
    cases hg
    have he : e = .non := by unfold isNB at hb; split at hb <;> first | rfl | cases hb
    subst he
    obtain rfl := hy.non
    refine h1 pins s σ H _ _ v u Q I rx ry ⟨rfl, ?_⟩
    rw [hx.isN hb]; exact fin0 st q (.bl _)
def cmpD : CmpOp → D → D → Option D
  | .Eq => fun a b => (eqB a b).map fun k => .bl k
  | .NotEq => fun a b => (eqB a b).map fun k => .bl (!k)
  | .Lt => fun a b => (ltB a b).map fun k => .bl k
  | .LtE => fun a b => (ltB b a).map fun k => .bl (!k)
  | .Gt => fun a b => (ltB b a).map fun k => .bl k
  | .GtE => fun a b => (ltB a b).map fun k => .bl (!k)
  | .In => fun a b => (inB a b).map fun k => .bl k
  | .NotIn => fun a b => (inB a b).map fun k => .bl (!k)
  | .Is => fun a b => (isNB a b).map fun k => .bl k
  | .IsNot => fun a b => (isNB a b).map fun k => .bl (!k)
theorem le_not (i j : Int) : decide (i ≤ j) = !decide (j < i) := by
  by_cases h : i ≤ j
  · rw [decide_eq_true h, decide_eq_false (by omega)]; rfl
  · rw [decide_eq_false h, decide_eq_true (by omega)]; rfl
theorem op_cmpP (hK : X.K = C.K) (hu5 : X.A.units + 65 < cLine) (op : CmpOp) : OpR X (compareOp op) (rP2 C (cmpD op)) := by
  have hu : X.A.units + 64 < cLine := by omega
  cases op with
  | Eq => exact eq_core (f := fun k => k) hK op_eq (op_eqD hu)
  | NotEq => exact eq_core (f := fun k => !k) hK op_ne (op_neD hu)
  | Lt => exact lt_core (f := fun k => k) hK op_lt (fun s E a b da db as bs Q r1 r2 h hn h3 q => PySem.W.lt_data r1 r2 h hn h3 q) hu
  | GtE =>
    refine lt_core (f := fun k => !k) hK ?_ (fun s E a b da db as bs Q r1 r2 h hn h3 q => PySem.W.ge_data r1 r2 h hn h3 q) hu
    have e : (fun i j : Int => V.bl (!decide (i < j))) = fun i j => V.bl (decide (j ≤ i)) := by funext i j; rw [le_not]
    rw [e]; exact op_ge
  | Gt => exact gt_core (f := fun k => k) hK op_gt (fun s E a b da db as bs Q r1 r2 h hn h3 q => PySem.W.gt_data r1 r2 h hn h3 q) hu
  | LtE =>
    refine gt_core (f := fun k => !k) hK ?_ (fun s E a b da db as bs Q r1 r2 h hn h3 q => PySem.W.le_data r1 r2 h hn h3 q) hu
    have e : (fun i j : Int => V.bl (!decide (j < i))) = fun i j => V.bl (decide (i ≤ j)) := by funext i j; rw [le_not]
    rw [e]; exact op_le
  | In =>
    refine in_core (f := fun k => k) hK op_in_sign op_in_str ?_ (op_inD hu5) (op_inTD hu5) (op_in_dic (by omega))
    exact op_in_seq
  | NotIn =>
    refine in_core (f := fun k => !k) hK op_notIn_sign op_notIn_str ?_ (op_notInD hu5) (op_notInTD hu5) (op_notIn_dic (by omega))
    exact op_notIn_seq
  | Is => exact is_core (f := fun k => k) op_isN
  | IsNot => exact is_core (f := fun k => !k) op_notN
end
end EK

set_option Elab.async false
set_option linter.all false
set_option maxRecDepth 100000
set_option maxHeartbeats 4000000
namespace EK
open PySem L2 PyProof.Rows PySem.Spec
section
variable {X : Cx} {C : Ct} {H : Hp} {ρ : Rg} {S : Sto} {z : D} {Q : VK}
/-! ### subscripts -/
def getK (es : List (Key × D)) (k : Key) : Option D := (es.find? fun kv => decide (kv.1 = k)).map (·.2)
/-- the dicts of the module, by name -/
def mdT : List (Str × List (Str × D)) := [("MEANT", [("back", .tup [.str [98, 97], .str [97]]), ("front", .tup [.str [97, 98], .str [97]]), ("swap", .tup [.str [98], .str [97]])])]
def Tabs (K : PySem.W.Frag) (w : World) (C : Ct) : Prop := ∀ (x : Str) (es : List (Str × D)) (a : Addr), mdT.lookup x = some es → C.mg x = some (.ref a) → ∃ ds n, KDict K w a ds n ∧ ∀ z d, es.lookup z = some d → ∃ u v, PySem.W.nsIn K a z = some (some u) ∧ RelV v u ∧ ∀ H ρ, RepD C H ρ v d
def idxD : D → D → Option D
  | .lst xs, .int i => atI xs i
  | .tup xs, .int i => atI xs i
  | .frz xs, .int i => atI xs i
  | .str s, .int i => if s.length ≤ szL then (atI s i).map fun c => .str [c] else none
  | .dic es, k => (keyD k).bind (getK es)
  | .fn x, .str s => (mdT.lookup x).bind fun es => es.lookup ⟨s.toArray⟩
  | _, _ => none
theorem RepA.atI {vs : List V} {ds : List D} {i : Int} {d : D} (r : RepA C H ρ vs ds) (h : L2.atI ds i = some d) : ∃ v, L2.atI vs i = some v ∧ RepD C H ρ v d := by
  unfold L2.atI at h ⊢
  rw [r.length]
  cases e : L2.ixN ds.length i with
  | none => rw [e] at h; cases h
  | some j =>
    rw [e] at h
    exact r.get' (i := j) h
theorem RepA.getK : ∀ {kvs : List (Key × V)} {es : List (Key × D)} {k : Key} {d : D}, kvs.map (·.1) = es.map (·.1) → RepA C H ρ (kvs.map (·.2)) (es.map (·.2)) → EK.getK es k = some d → ∃ v, valV kvs k = some v ∧ RepD C H ρ v d
  | [], [], _, _, _, _, h => by cases h
  | [], _ :: _, _, _, e, _, _ => by cases e
  | _ :: _, [], _, _, e, _, _ => by cases e
  | p :: kvs, q :: es, k, d, e, r, h => by
    have e1 : p.1 = q.1 := (List.cons.inj e).1
    have e2 := (List.cons.inj e).2
    cases r with
    | cons r1 r2 =>
      unfold EK.getK at h
      unfold valV
      rw [List.find?_cons] at h ⊢
      rw [e1]
      by_cases hk : q.1 = k
      · rw [decide_eq_true hk] at h ⊢
        cases h
        exact ⟨_, rfl, r1⟩
      · rw [decide_eq_false hk] at h ⊢
        exact RepA.getK e2 r2 h
theorem ix_dict (hu : X.A.units + 1 < cLine) : IxR X (fun x y H Q => ∃ a v, x = .ref a ∧ DGet H a y (some v) ∧ Q v H) := by
  intro value slice pins s σ H x y v u Q I rx ry h hs
  obtain ⟨a, z, rfl, g, q⟩ := h
  cases rx
  exact tail_any (dict_typeIs I g) PySem.F.slot_dict_getitem.lookup (d_getItem hu I g ry fun w' s3 I3 rw' => ⟨z, H, I3, rw', q⟩) hs
theorem ix_kd {d : Addr} {es : Array DictEntry} {n : Nat} (D : KDict X.K X.w d es n) : IxR X (fun x y H Q => ∃ (z : Str) (u0 : Value) (v0 : V), x = .ref d ∧ y = .str z ∧ PySem.W.nsIn X.K d z = some (some u0) ∧ RelV v0 u0 ∧ Q v0 H) := by
  intro value slice pins s σ H x y v u Q I rx ry h hs
  have h' := h
  obtain ⟨z, u0, v0, rfl, rfl, e, r, q⟩ := h
  have rx' := rx
  cases rx
  exact tail_any (kd_type D I) PySem.F.slot_dict_getitem.lookup (op_item_kd D pins s σ H _ _ _ u Q I rx' ry h') hs
theorem VwR.fn {v : V} {x : Str} (h : VwR C H ρ v (.fn x)) : ∃ f, v = .ref f ∧ C.mg x = some (.ref f) := by
  rcases h with h | ⟨_, _, _, z, _⟩ | ⟨_, _, _, z, _⟩
  · cases h with | fn h => exact ⟨_, rfl, h⟩
  · cases z
  · cases z
theorem ix_P (hK : X.K = C.K) (hu : X.A.units + 65 < cLine) (ht : Tabs X.K X.w C) : IxR X (rP2 C idxD) := by
  intro value slice pins s σ H x y v u Q I rx ry h hs
  obtain ⟨ρ, S, d, e, z, st, hx, hy, hg, q⟩ := h
  unfold idxD at hg
  split at hg
  · obtain ⟨a, xs, rfl, ha, r⟩ := hx.lst; obtain rfl := hy.int
    obtain ⟨w, h1, h2⟩ := r.atI hg
    exact ix_list value slice pins s σ H _ _ v u Q I rx ry ⟨_, _, _, _, rfl, rfl, .inl (.inl ha), h1, fin0 st q h2⟩ hs
  · obtain ⟨a, xs, rfl, ha, r⟩ := hx.tup; obtain rfl := hy.int
    obtain ⟨w, h1, h2⟩ := r.atI hg
    exact ix_tup value slice pins s σ H _ _ v u Q I rx ry ⟨_, _, _, _, rfl, rfl, by rw [hK]; exact ha.sq, h1, fin0 st q h2⟩ hs
  · obtain ⟨a, xs, rfl, ha, r⟩ := hx.frz; obtain rfl := hy.int
    obtain ⟨w, h1, h2⟩ := r.atI hg
    exact ix_list value slice pins s σ H _ _ v u Q I rx ry ⟨_, _, _, _, rfl, rfl, by rw [hK]; exact ha, h1, fin0 st q h2⟩ hs
  · split at hg
    · rename_i hl
      obtain rfl := hx.str; obtain rfl := hy.int
      cases e1 : L2.atI _ _ with
      | none => rw [e1] at hg; cases hg
      | some c =>
        rw [e1] at hg
        cases hg
        exact ix_str value slice pins s σ H _ _ v u Q I rx ry ⟨_, _, c, rfl, rfl, by rw [str_len, szL_eq]; exact hl, e1, fin0 st q (.str [c])⟩ hs
    · cases hg
  · obtain ⟨a, kvs, rfl, ha, ek, r⟩ := hx.dic
    cases e1 : keyD e with
    | none => rw [e1] at hg; cases hg
    | some k =>
      rw [e1] at hg
      obtain ⟨w, h1, h2⟩ := RepA.getK ek r hg
      exact ix_dict (by omega) value slice pins s σ H _ _ v u Q I rx ry ⟨a, w, rfl, .inl ⟨kvs, k, .inl ha, hy.key e1, h1.symm⟩, fin0 st q h2⟩ hs
  · rename_i x' s'
    obtain ⟨f, rfl, hm⟩ := hx.fn
    obtain rfl := hy.str
    cases e1 : mdT.lookup x' with
    | none => rw [e1] at hg; cases hg
    | some es =>
      rw [e1] at hg
      obtain ⟨ds, n, kd, hv⟩ := ht x' es f e1 hm
      obtain ⟨u0, v0, k1, k2, k3⟩ := hv _ _ hg
      exact ix_kd kd value slice pins s σ H _ _ v u Q I rx ry ⟨_, u0, v0, rfl, rfl, k1, k2, fin0 st q (k3 _ _)⟩ hs
  · cases hg
/-! ### slices -/
def cutL {α : Type} (xs : List α) (lo hi : Option Int) : List α := (xs.drop (HT.sIx xs.length 0 lo)).take (HT.sIx xs.length xs.length hi - HT.sIx xs.length 0 lo)
def slD : D → Option Int → Option Int → Option D
  | .lst xs, lo, hi => some (.lst (cutL xs lo hi))
  | .frz xs, lo, hi => some (.lst (cutL xs lo hi))
  | .tup xs, lo, hi => some (.tup (cutL xs lo hi))
  | .str s, lo, hi => if s.length ≤ szL then some (.str (cutL s lo hi)) else none
  | _, _, _ => none
def rPsl (C : Ct) : V → Option Int → Option Int → Hp → VK → Prop := fun x lo hi H Q => ∃ ρ S d z, StOk C H ρ S ∧ VwR C H ρ x d ∧ slD d lo hi = some z ∧
  ∀ v H', Nx H ρ H' ρ → StOk C H' ρ S → RepD C H' ρ v z → Q v H'
theorem RepA.cut {vs : List V} {ds : List D} (r : RepA C H ρ vs ds) (lo hi : Option Int) : RepA C H ρ (cutV vs lo hi) (cutL ds lo hi) := by
  unfold cutV cutL
  rw [r.length]
  exact (r.drop _).take _
theorem sl_P (hK : X.K = C.K) : SlR X (rPsl C) := by
  intro pins s σ H x v vl vu lo hi sl Q I rx hs pl pu h
  obtain ⟨ρ, S, d, z, st, hx, hg, q⟩ := h
  unfold slD at hg
  split at hg
  · cases hg
    obtain ⟨a, xs, rfl, ha, r⟩ := hx.lst
    exact sl_list pins s σ H _ v vl vu _ _ sl Q I rx hs pl pu ⟨a, xs, rfl, .inl (.inl ha), fun p hp => finL st q (r.cut _ _) hp⟩
  · cases hg
    obtain ⟨a, xs, rfl, ha, r⟩ := hx.frz
    exact sl_list pins s σ H _ v vl vu _ _ sl Q I rx hs pl pu ⟨a, xs, rfl, by rw [hK]; exact ha, fun p hp => finL st q (r.cut _ _) hp⟩
  · cases hg
    obtain ⟨a, xs, rfl, ha, r⟩ := hx.tup
    refine sl_tupA pins s σ H _ v vl vu _ _ sl Q I rx hs pl pu ⟨a, xs, rfl, by rw [hK]; exact ha.sq, fun hw => ?_, fun _ p hp => finT st q (r.cut _ _) hp⟩
    have rc := r.cut lo hi
    have e : cutV xs lo hi = xs := by
      unfold cutV
      rw [hw.1, hw.2, List.drop_zero, Nat.sub_zero, List.take_length]
    rw [e] at rc
    exact fin0 st q (.tup ha rc)
  · split at hg
    · rename_i hl
      cases hg
      obtain rfl := hx.str
      refine sl_str pins s σ H _ v vl vu _ _ sl Q I rx hs pl pu ⟨_, rfl, by rw [str_len, szL_eq]; exact hl, ?_⟩
      have e : ∀ w : List Nat, cutS ⟨w.toArray⟩ lo hi = ⟨(cutL w lo hi).toArray⟩ := by
        intro w
        unfold cutS cutL
        rw [str_len]
      rw [e]
      exact fin0 st q (.str _)
    · cases hg
  · cases hg
/-! ### x[::-1] -/
def revD : D → Option D
  | .lst xs => some (.lst xs.reverse)
  | .str s => if s.length ≤ szL then some (.str s.reverse) else none
  | .tup xs => some (.tup xs.reverse)
  | _ => none

/-! ### built-ins on values -/
theorem vw1 {xs : List V} {d : D} (h : Paired (VwR C H ρ) xs [d]) : ∃ x, xs = [x] ∧ VwR C H ρ x d := by
  cases h with
  | cons h r => cases r; exact ⟨_, rfl, h⟩
theorem vw2 {xs : List V} {d e : D} (h : Paired (VwR C H ρ) xs [d, e]) : ∃ x y, xs = [x, y] ∧ VwR C H ρ x d ∧ VwR C H ρ y e := by
  cases h with
  | cons h r => obtain ⟨y, rfl, h2⟩ := vw1 r; exact ⟨_, _, rfl, h, h2⟩
def lenD : List D → Option D
  | [.str s] => if s.length ≤ szL then some (.int s.length) else none
  | [.lst xs] => some (.int xs.length)
  | [.tup xs] => some (.int xs.length)
  | [.frz xs] => some (.int xs.length)
  | _ => none
theorem call_lenP (hK : X.K = C.K) : CallR X (.builtin "len") (rPn C lenD) := by
  intro pins s σ H xs us Q I r h
  obtain ⟨ρ, S, ds, z, st, hx, hg, q⟩ := h
  unfold lenD at hg
  split at hg
  · split at hg
    · rename_i hl
      cases hg
      obtain ⟨x, rfl, hv⟩ := vw1 hx
      obtain rfl := hv.str
      refine call_len pins s σ H _ us Q I r ⟨_, _, rfl, ⟨by rw [str_len, szL_eq]; exact hl, rfl⟩, ?_⟩
      rw [str_len]; exact fin0 st q (.int _)
    · cases hg
  · cases hg
    obtain ⟨x, rfl, hv⟩ := vw1 hx
    obtain ⟨a, ys, rfl, ha, ra⟩ := hv.lst
    refine call_len pins s σ H _ us Q I r ⟨_, _, rfl, .inl ⟨ys, .inl (.inl ha), rfl⟩, ?_⟩
    rw [ra.length]; exact fin0 st q (.int _)
  · cases hg
    obtain ⟨x, rfl, hv⟩ := vw1 hx
    obtain ⟨a, ys, rfl, ha, ra⟩ := hv.tup
    refine call_len pins s σ H _ us Q I r ⟨_, _, rfl, .inr ⟨ys, by rw [hK]; exact ha.sq, rfl⟩, ?_⟩
    rw [ra.length]; exact fin0 st q (.int _)
  · cases hg
    obtain ⟨x, rfl, hv⟩ := vw1 hx
    obtain ⟨a, ys, rfl, ha, ra⟩ := hv.frz
    refine call_len pins s σ H _ us Q I r ⟨_, _, rfl, .inl ⟨ys, by rw [hK]; exact ha, rfl⟩, ?_⟩
    rw [ra.length]; exact fin0 st q (.int _)
  · cases hg
def absD : List D → Option D
  | [.int i] => some (.int (if i < 0 then -i else i))
  | _ => none
theorem call_absP : CallR X (.builtin "abs") (rPn C absD) := by
  intro pins s σ H xs us Q I r h
  obtain ⟨ρ, S, ds, z, st, hx, hg, q⟩ := h
  unfold absD at hg
  split at hg
  · cases hg
    obtain ⟨x, rfl, hv⟩ := vw1 hx
    obtain rfl := hv.int
    exact call_abs pins s σ H _ us Q I r ⟨_, rfl, fin0 st q (.int _)⟩
  · cases hg
def intD : List D → Option D
  | [.int i] => some (.int i)
  | [.bl b] => some (.int (if b then 1 else 0))
  | _ => none
theorem call_intP : CallR X (.type "int") (rPn C intD) := by
  intro pins s σ H xs us Q I r h
  obtain ⟨ρ, S, ds, z, st, hx, hg, q⟩ := h
  unfold intD at hg
  split at hg
  · cases hg
    obtain ⟨x, rfl, hv⟩ := vw1 hx
    obtain rfl := hv.int
    exact call_int1 pins s σ H _ us Q I r (.inl ⟨_, rfl, fin0 st q (.int _)⟩)
  · cases hg
    obtain ⟨x, rfl, hv⟩ := vw1 hx
    obtain rfl := hv.bl
    exact call_int1 pins s σ H _ us Q I r (.inr ⟨_, rfl, fin0 st q (.int _)⟩)
  · cases hg
def intsOf : List D → Option (List Int)
  | [] => some []
  | .int i :: r => (intsOf r).map (i :: ·)
  | _ :: _ => none
theorem intsOf_map (ns : List Int) : intsOf (ns.map .int) = some ns := by
  induction ns with
  | nil => rfl
  | cons n ns ih => rw [List.map_cons, intsOf, ih]; rfl
theorem RepA.ints : ∀ {vs : List V} {ds : List D} {ns : List Int}, RepA C H ρ vs ds → intsOf ds = some ns → vs = ns.map V.int
  | _, _, _, .nil, e => by rw [intsOf] at e; cases e; rfl
  | _, _, _, .cons (d := d) (ds := ds) h r, e => by
    cases d with
    | int i =>
      rw [intsOf] at e
      cases q : intsOf ds with
      | none => rw [q] at e; cases e
      | some m => rw [q] at e; cases e; cases h; rw [List.map_cons, ← RepA.ints r q]
    | _ => cases e
def bools : List D → Option (List Bool)
  | [] => some []
  | .bl i :: r => (bools r).map (i :: ·)
  | _ :: _ => none
theorem bools_map (ns : List Bool) : bools (ns.map .bl) = some ns := by
  induction ns with
  | nil => rfl
  | cons n ns ih => rw [List.map_cons, bools, ih]; rfl
theorem RepA.bools : ∀ {vs : List V} {ds : List D} {ns : List Bool}, RepA C H ρ vs ds → EK.bools ds = some ns → vs = ns.map V.bl
  | _, _, _, .nil, e => by rw [EK.bools] at e; cases e; rfl
  | _, _, _, .cons (d := d) (ds := ds) h r, e => by
    cases d with
    | bl i =>
      rw [EK.bools] at e
      cases q : EK.bools ds with
      | none => rw [q] at e; cases e
      | some m => rw [q] at e; cases e; cases h; rw [List.map_cons, ← RepA.bools r q]
    | _ => cases e
def strsOf : List D → Option (List (List Nat))
  | [] => some []
  | .str i :: r => (strsOf r).map (i :: ·)
  | _ :: _ => none
theorem strsOf_map (ns : List (List Nat)) : strsOf (ns.map .str) = some ns := by
  induction ns with
  | nil => rfl
  | cons n ns ih => rw [List.map_cons, strsOf, ih]; rfl
abbrev mkS (s : List Nat) : Str := ⟨s.toArray⟩
theorem RepA.strs : ∀ {vs : List V} {ds : List D} {ns : List (List Nat)}, RepA C H ρ vs ds → strsOf ds = some ns → vs = (ns.map mkS).map V.str
  | _, _, _, .nil, e => by rw [strsOf] at e; cases e; rfl
  | _, _, _, .cons (d := d) (ds := ds) h r, e => by
    cases d with
    | str i =>
      rw [strsOf] at e
      cases q : strsOf ds with
      | none => rw [q] at e; cases e
      | some m => rw [q] at e; cases e; cases h; rw [List.map_cons, List.map_cons, ← RepA.strs r q]
    | _ => cases e
/-! max, min: two ints; a list of ints; a list of data that are alike -/
def dlt (a b : D) : Bool := match py a, py b with
  | some p, some q => PySem.W.dataLt p q
  | _, _ => false
def alikeB (ps : List PyData) : Bool := ps.all fun x => !nonePy x && ps.all fun y => PySem.W.alike x y
theorem alikeB_ok {ps : List PyData} (h : alikeB ps = true) : PySem.W.AlikeAll ps := by
  unfold alikeB at h
  rw [List.all_eq_true] at h
  refine ⟨fun x hx y hy => ?_, fun x hx => ?_⟩
  · have := h x hx
    rw [Bool.and_eq_true, List.all_eq_true] at this
    exact this.2 y hy
  · have := h x hx
    rw [Bool.and_eq_true] at this
    exact nonePy_ne (by simpa using this.1)
def bestD (lt : D → D → Bool) : List D → Option D
  | [] => none
  | x :: r => match pyA (x :: r) with
    | some ps => if alikeB ps = true ∧ PyData.depthAll ps ≤ 60 ∧ PyData.canLayAll0 ps = true then some (r.foldl (fun a y => if lt a y then y else a) x) else none
    | none => none
def maxD : List D → Option D
  | [.int i, .int j] => some (.int (if j > i then j else i))
  | [.lst xs] => match intsOf xs with
    | some (n :: ns) => some (.int (ns.foldl max n))
    | _ => bestD dlt xs
  | _ => none
def minD : List D → Option D
  | [.int i, .int j] => some (.int (if j < i then j else i))
  | [.lst xs] => match intsOf xs with
    | some (n :: ns) => some (.int (ns.foldl min n))
    | _ => bestD (fun a b => dlt b a) xs
  | _ => none
theorem foldl_max_ge : ∀ (ns : List Int) (n : Int), n ≤ ns.foldl max n ∧ (∀ y ∈ ns, y ≤ ns.foldl max n) ∧ (ns.foldl max n = n ∨ ns.foldl max n ∈ ns)
  | [], n => ⟨Int.le_refl _, (fun _ h => by cases h), .inl rfl⟩
  | m :: ns, n => by
    obtain ⟨h1, h2, h3⟩ := foldl_max_ge ns (max n m)
    rw [List.foldl_cons]
    refine ⟨by omega, fun y hy => ?_, ?_⟩
    · rcases List.mem_cons.mp hy with rfl | hy
      · omega
      · exact h2 y hy
    · rcases h3 with h3 | h3
      · rw [h3]
        by_cases h : n ≤ m
        · right; rw [Int.max_eq_right h]; exact List.mem_cons_self
        · left; exact Int.max_eq_left (by omega)
      · exact .inr (List.mem_cons_of_mem _ h3)
theorem foldl_min_le : ∀ (ns : List Int) (n : Int), ns.foldl min n ≤ n ∧ (∀ y ∈ ns, ns.foldl min n ≤ y) ∧ (ns.foldl min n = n ∨ ns.foldl min n ∈ ns)
  | [], n => ⟨Int.le_refl _, (fun _ h => by cases h), .inl rfl⟩
  | m :: ns, n => by
    obtain ⟨h1, h2, h3⟩ := foldl_min_le ns (min n m)
    rw [List.foldl_cons]
    refine ⟨by omega, fun y hy => ?_, ?_⟩
    · rcases List.mem_cons.mp hy with rfl | hy
      · omega
      · exact h2 y hy
    · rcases h3 with h3 | h3
      · rw [h3]
        by_cases h : m ≤ n
        · right; rw [Int.min_eq_right h]; exact List.mem_cons_self
        · left; exact Int.min_eq_left (by omega)
      · exact .inr (List.mem_cons_of_mem _ h3)
theorem max_unique {n m : Int} {ns : List Int} (h1 : m ∈ n :: ns) (h2 : ∀ y, y ∈ n :: ns → y ≤ m) : m = ns.foldl max n := by
  obtain ⟨a, b, c⟩ := foldl_max_ge ns n
  have h3 : ns.foldl max n ≤ m := by
    rcases c with c | c
    · rw [c]; exact h2 _ List.mem_cons_self
    · exact h2 _ (List.mem_cons_of_mem _ c)
  rcases List.mem_cons.mp h1 with rfl | h1
  · omega
  · have := b m h1; omega
theorem min_unique {n m : Int} {ns : List Int} (h1 : m ∈ n :: ns) (h2 : ∀ y, y ∈ n :: ns → m ≤ y) : m = ns.foldl min n := by
  obtain ⟨a, b, c⟩ := foldl_min_le ns n
  have h3 : m ≤ ns.foldl min n := by
    rcases c with c | c
    · rw [c]; exact h2 _ List.mem_cons_self
    · exact h2 _ (List.mem_cons_of_mem _ c)
  rcases List.mem_cons.mp h1 with rfl | h1
  · omega
  · have := b m h1; omega

mutual
theorem py_inj : ∀ {a b : D} {p : PyData}, py a = some p → py b = some p → a = b
  | .non, b, p, h1, h2 => by
    rw [py] at h1; cases h1
    cases b <;> simp only [py, Option.map_eq_some_iff] at h2 <;> first | rfl | (exfalso; simp at h2)
  | .bl x, b, p, h1, h2 => by
    rw [py] at h1; cases h1
    cases b <;> simp only [py, Option.map_eq_some_iff] at h2 <;> first | (exfalso; simp at h2; done) | (simp at h2; subst h2; rfl)
  | .int x, b, p, h1, h2 => by
    rw [py] at h1; cases h1
    cases b <;> simp only [py, Option.map_eq_some_iff] at h2 <;> first | (exfalso; simp at h2; done) | (simp at h2; subst h2; rfl)
  | .str x, b, p, h1, h2 => by
    rw [py] at h1; cases h1
    cases b <;> simp only [py, Option.map_eq_some_iff] at h2 <;> first | (exfalso; simp at h2; done) | (simp at h2; subst h2; rfl)
  | .tup x, b, p, h1, h2 => by
    rw [py, Option.map_eq_some_iff] at h1
    obtain ⟨q, e, rfl⟩ := h1
    cases b <;> simp only [py, Option.map_eq_some_iff] at h2 <;> first | (exfalso; simp at h2; done) | skip
    obtain ⟨q2, e2, e3⟩ := h2
    cases e3
    rw [pyA_inj e e2]
  | .lst x, b, p, h1, h2 => by
    rw [py, Option.map_eq_some_iff] at h1
    obtain ⟨q, e, rfl⟩ := h1
    cases b <;> simp only [py, Option.map_eq_some_iff] at h2 <;> first | (exfalso; simp at h2; done) | skip
    obtain ⟨q2, e2, e3⟩ := h2
    cases e3
    rw [pyA_inj e e2]
  | .dic _, _, _, h1, _ => by rw [py] at h1; cases h1
  | .fn _, _, _, h1, _ => by rw [py] at h1; cases h1
  | .loc _, _, _, h1, _ => by rw [py] at h1; cases h1
  | .frz _, _, _, h1, _ => by rw [py] at h1; cases h1
  | .exc _ _, _, _, h1, _ => by rw [py] at h1; cases h1
  | .opq, _, _, h1, _ => by rw [py] at h1; cases h1
  | .adr _, _, _, h1, _ => by rw [py] at h1; cases h1
theorem pyA_inj : ∀ {a b : List D} {p : List PyData}, pyA a = some p → pyA b = some p → a = b
  | [], b, p, h1, h2 => by
    rw [pyA] at h1; cases h1
    cases b with
    | nil => rfl
    | cons x xs => obtain ⟨_, _, _, _, e⟩ := pyA_cons h2; cases e
  | x :: xs, b, p, h1, h2 => by
    obtain ⟨p1, q1, e1, e2, rfl⟩ := pyA_cons h1
    cases b with
    | nil => rw [pyA] at h2; cases h2
    | cons y ys =>
      obtain ⟨p2, q2, e3, e4, e5⟩ := pyA_cons h2
      cases e5
      rw [py_inj e1 e3, pyA_inj e2 e4]
end
theorem pyA_get : ∀ {ds : List D} {ps : List PyData} {i : Nat} {d : D}, pyA ds = some ps → ds[i]? = some d → ∃ p, ps[i]? = some p ∧ py d = some p
  | [], _, _, _, _, h => by simp at h
  | x :: xs, ps, 0, d, h, e => by
    obtain ⟨p, q, e1, e2, rfl⟩ := pyA_cons h
    simp at e; subst e
    exact ⟨p, rfl, e1⟩
  | x :: xs, ps, i + 1, d, h, e => by
    obtain ⟨p, q, e1, e2, rfl⟩ := pyA_cons h
    obtain ⟨r, h1, h2⟩ := pyA_get (i := i) e2 (by simpa using e)
    exact ⟨r, by simpa using h1, h2⟩
theorem py_fold (lt : D → D → Bool) (plt : PyData → PyData → Bool) (hlt : ∀ a b p q, py a = some p → py b = some q → lt a b = plt p q) : ∀ {r : List D} {x : D} {ps : List PyData} {p : PyData}, py x = some p → pyA r = some ps →
    py (r.foldl (fun a y => if lt a y then y else a) x) = some (ps.foldl (fun a y => if plt a y then y else a) p)
  | [], x, ps, p, h1, h2 => by rw [pyA] at h2; cases h2; exact h1
  | y :: r, x, ps, p, h1, h2 => by
    obtain ⟨p2, q, e1, e2, rfl⟩ := pyA_cons h2
    rw [List.foldl_cons, List.foldl_cons]
    refine py_fold lt plt hlt ?_ e2
    rw [hlt x y p p2 h1 e1]
    split
    · exact e1
    · exact h1
theorem dlt_py {a b : D} {p q : PyData} (h1 : py a = some p) (h2 : py b = some q) : dlt a b = PySem.W.dataLt p q := by
  unfold dlt; rw [h1, h2]
/-- the best of a list of data, by the library's word for max or min -/
theorem best_core {f : Value} {lt : D → D → Bool} {plt : PyData → PyData → Bool} (hK : X.K = C.K) (hc : X.calm = true) (hu : X.A.units + 65 < cLine) (hlt : ∀ a b p q, py a = some p → py b = some q → lt a b = plt p q)
    (rule : ∀ (E : Value → Shared → Prop) (s : Shared) (l : Addr) (vs : Array Value) (x : PyData) (xs : List PyData) (as : List Addr) (Q : Value → Shared → Prop), X.A.handled = none → s.heap.IsList l vs → ReadsAll s.heap vs.toList (x :: xs) as → PySem.W.AlikeAll (x :: xs) → X.A.units + 1 + PyData.depthAll (x :: xs) < cLine →
      (∀ (i : Nat) v h' tk bs, vs[i]? = some v → Reads h' v (xs.foldl (fun a y => if plt a y then y else a) x) bs → (∀ b o, s.heap.get? b = some o → h'.get? b = some o) → Q v { s with heap := h', toks := tk }) → wpAny (model X.prog X.w) X.A (call f [.ref l]) Q E s)
    {pins : List (Addr × Obj)} {s : Shared} {σ : L2.St} {H : Hp} {us : List Value} {Q : VK} (I : L2.Inv X pins σ H s) {ρ : Rg} {S : Sto} {a : Addr} {xs : List V} {ds : List D} {z : D} (st : StOk C H ρ S) (ha : H a = some (.lst xs)) (r : RepA C H ρ xs ds) (hg : bestD lt ds = some z)
    (q : ∀ v H', Nx H ρ H' ρ → StOk C H' ρ S → RepD C H' ρ v z → Q v H') (ru : Vals [.ref a] us) : wpAny (model X.prog X.w) X.A (call f us) (EP X pins σ Q) X.xe s := by
  obtain ⟨u, rfl, rv⟩ := vals1 ru
  cases rv
  obtain ⟨its, rits, pl, _⟩ := I.list (X := X) (xs := xs) (a := a) (.inl (.inl ha))
  cases ds with
  | nil => cases hg
  | cons d0 ds =>
    have hg : (match pyA (d0 :: ds) with | some ps => if alikeB ps = true ∧ PyData.depthAll ps ≤ 60 ∧ PyData.canLayAll0 ps = true then some (ds.foldl (fun a y => if lt a y then y else a) d0) else none | none => none) = some z := hg
    split at hg
    · rename_i ps e
      split at hg
      · rename_i hs
        cases hg
        obtain ⟨p0, qs, e1, e2, rfl⟩ := pyA_cons e
        obtain ⟨as, rd⟩ := Dp.readsAll I (p0 :: qs) xs its (by rw [hK]; exact r.dp e) rits
        refine rule _ s a its.toArray p0 qs as _ (I.ok.hd hc) pl.isList rd (alikeB_ok hs.1) (by have := hs.2.1; omega) fun i v h' tk bs hi hrd hk => ?_
        have hi' : its[i]? = some v := by simpa using hi
        have hlen : i < xs.length := by rw [rits.length]; exact (List.getElem?_eq_some_iff.mp hi').1
        obtain ⟨u2, hu2, rv2⟩ := rits.get (List.getElem?_eq_getElem hlen)
        rw [hi'] at hu2
        cases hu2
        obtain ⟨d, hd, rd'⟩ := r.get (List.getElem?_eq_getElem hlen)
        obtain ⟨p, hp, hpd⟩ := pyA_get e hd
        obtain ⟨bs2, hr2, _⟩ := PySem.W.readsAll_atA rd i v hi
        have hp2 : (p0 :: qs).getD i PyData.none = p := by rw [List.getD_eq_getElem?_getD, hp]; rfl
        rw [hp2] at hr2
        have eq := (Reads.unique (PySem.W.reads_keeps hk hr2) _ _ hrd).1
        have ez := py_fold lt plt hlt (r := ds) (x := d0) e1 e2
        rw [← eq] at ez
        have := py_inj hpd ez
        subst this
        exact ⟨_, H, I.kept hk, rv2, fin0 st q rd'⟩
      · cases hg
    · cases hg
theorem call_maxP (hK : X.K = C.K) (hc : X.calm = true) (hu : X.A.units + 65 < cLine) : CallR X (.builtin "max") (rPn C maxD) := by
  intro pins s σ H xs us Q I r h
  obtain ⟨ρ, S, ds, z, st, hx, hg, q⟩ := h
  unfold maxD at hg
  split at hg
  · cases hg
    obtain ⟨x, y, rfl, hv, hw⟩ := vw2 hx
    obtain rfl := hv.int; obtain rfl := hw.int
    exact call_max2 hc pins s σ H _ us Q I r ⟨_, _, rfl, fin0 st q (.int _)⟩
  · obtain ⟨x, rfl, hv⟩ := vw1 hx
    obtain ⟨a, ys, rfl, ha, ra⟩ := hv.lst
    split at hg
    · rename_i n ns e
      cases hg
      have ey := ra.ints e
      refine cr_max hc pins s σ H _ us Q I r ⟨a, n :: ns, rfl, .inl (.inl (by rw [← ey]; exact ha)), by simp, fun m h1 h2 => ?_⟩
      rw [max_unique h1 h2]
      exact fin0 st q (.int _)
    · exact best_core hK hc hu (fun a b p q h1 h2 => dlt_py h1 h2) (fun E s l vs x xs as Q a1 a2 a3 a4 a5 a6 => PySem.W.max_list_data a1 a2 a3 a4 a5 a6) I st ha ra hg q r
  · cases hg
theorem call_minP (hK : X.K = C.K) (hc : X.calm = true) (hu : X.A.units + 65 < cLine) : CallR X (.builtin "min") (rPn C minD) := by
  intro pins s σ H xs us Q I r h
  obtain ⟨ρ, S, ds, z, st, hx, hg, q⟩ := h
  unfold minD at hg
  split at hg
  · cases hg
    obtain ⟨x, y, rfl, hv, hw⟩ := vw2 hx
    obtain rfl := hv.int; obtain rfl := hw.int
    exact call_min2 hc pins s σ H _ us Q I r ⟨_, _, rfl, fin0 st q (.int _)⟩
  · obtain ⟨x, rfl, hv⟩ := vw1 hx
    obtain ⟨a, ys, rfl, ha, ra⟩ := hv.lst
    split at hg
    · rename_i n ns e
      cases hg
      have ey := ra.ints e
      refine cr_min hc pins s σ H _ us Q I r ⟨a, n :: ns, rfl, .inl (.inl (by rw [← ey]; exact ha)), by simp, fun m h1 h2 => ?_⟩
      rw [min_unique h1 h2]
      exact fin0 st q (.int _)
    · exact best_core (plt := fun a b => PySem.W.dataLt b a) hK hc hu (fun a b p q h1 h2 => dlt_py h2 h1) (fun E s l vs x xs as Q a1 a2 a3 a4 a5 a6 => PySem.W.min_list_data a1 a2 a3 a4 a5 a6) I st ha ra hg q r
  · cases hg
def sumD : List D → Option D
  | [.lst xs] => (intsOf xs).map fun ns => .int ns.sum
  | _ => none
theorem call_sumP (hK : X.K = C.K) (hc : X.calm = true) : CallR X (.builtin "sum") (rPn C sumD) := by
  intro pins s σ H xs us Q I r h
  obtain ⟨ρ, S, ds, z, st, hx, hg, q⟩ := h
  unfold sumD at hg
  split at hg
  · obtain ⟨x, rfl, hv⟩ := vw1 hx
    obtain ⟨a, ys, rfl, ha, ra⟩ := hv.lst
    rw [Option.map_eq_some_iff] at hg
    obtain ⟨ns, e, rfl⟩ := hg
    exact cr_sum hc pins s σ H _ us Q I r ⟨a, ns, rfl, .inl (.inl (by rw [← ra.ints e]; exact ha)), fin0 st q (.int _)⟩
  · cases hg
def allD : List D → Option D
  | [.lst xs] => (bools xs).map fun ns => .bl (ns.all id)
  | _ => none
def anyD : List D → Option D
  | [.lst xs] => (bools xs).map fun ns => .bl (ns.any id)
  | _ => none
theorem call_allP (hc : X.calm = true) : CallR X (.builtin "all") (rPn C allD) := by
  intro pins s σ H xs us Q I r h
  obtain ⟨ρ, S, ds, z, st, hx, hg, q⟩ := h
  unfold allD at hg
  split at hg
  · obtain ⟨x, rfl, hv⟩ := vw1 hx
    obtain ⟨a, ys, rfl, ha, ra⟩ := hv.lst
    rw [Option.map_eq_some_iff] at hg
    obtain ⟨ns, e, rfl⟩ := hg
    exact cr_all hc pins s σ H _ us Q I r ⟨a, ns, rfl, .inl (.inl (by rw [← ra.bools e]; exact ha)), fin0 st q (.bl _)⟩
  · cases hg
theorem call_anyP (hc : X.calm = true) : CallR X (.builtin "any") (rPn C anyD) := by
  intro pins s σ H xs us Q I r h
  obtain ⟨ρ, S, ds, z, st, hx, hg, q⟩ := h
  unfold anyD at hg
  split at hg
  · obtain ⟨x, rfl, hv⟩ := vw1 hx
    obtain ⟨a, ys, rfl, ha, ra⟩ := hv.lst
    rw [Option.map_eq_some_iff] at hg
    obtain ⟨ns, e, rfl⟩ := hg
    exact cr_any hc pins s σ H _ us Q I r ⟨a, ns, rfl, .inl (.inl (by rw [← ra.bools e]; exact ha)), fin0 st q (.bl _)⟩
  · cases hg
def listD : List D → Option D
  | [.lst xs] => some (.lst xs)
  | [.tup xs] => some (.lst xs)
  | [.frz xs] => some (.lst xs)
  | _ => none
theorem call_listP (hK : X.K = C.K) : CallR X (.type "list") (rPn C listD) := by
  intro pins s σ H xs us Q I r h
  obtain ⟨ρ, S, ds, z, st, hx, hg, q⟩ := h
  unfold listD at hg
  split at hg
  · cases hg
    obtain ⟨x, rfl, hv⟩ := vw1 hx
    obtain ⟨a, ys, rfl, ha, ra⟩ := hv.lst
    exact call_list_of pins s σ H _ us Q I r ⟨a, ys, rfl, .inl (.inl (.inl ha)), fun l hl => finL st q ra hl⟩
  · cases hg
    obtain ⟨x, rfl, hv⟩ := vw1 hx
    obtain ⟨a, ys, rfl, ha, ra⟩ := hv.tup
    exact call_list_of pins s σ H _ us Q I r ⟨a, ys, rfl, .inr (by rw [hK]; exact ha.sq), fun l hl => finL st q ra hl⟩
  · cases hg
    obtain ⟨x, rfl, hv⟩ := vw1 hx
    obtain ⟨a, ys, rfl, ha, ra⟩ := hv.frz
    exact call_list_of pins s σ H _ us Q I r ⟨a, ys, rfl, .inl (by rw [hK]; exact ha), fun l hl => finL st q ra hl⟩
  · cases hg
def tupleD : List D → Option D
  | [.lst xs] => some (.tup xs)
  | [.tup xs] => some (.tup xs)
  | _ => none
theorem call_tupleP (hK : X.K = C.K) : CallR X (.type "tuple") (rPn C tupleD) := by
  intro pins s σ H xs us Q I r h
  obtain ⟨ρ, S, ds, z, st, hx, hg, q⟩ := h
  unfold tupleD at hg
  split at hg
  · cases hg
    obtain ⟨x, rfl, hv⟩ := vw1 hx
    obtain ⟨a, ys, rfl, ha, ra⟩ := hv.lst
    exact call_tuple_of pins s σ H _ us Q I r ⟨a, ys, rfl, .inl ⟨.inl (.inl ha), fun l hl => finT st q ra hl⟩⟩
  · cases hg
    obtain ⟨x, rfl, hv⟩ := vw1 hx
    obtain ⟨a, ys, rfl, ha, ra⟩ := hv.tup
    exact call_tuple_of pins s σ H _ us Q I r ⟨a, ys, rfl, .inr ⟨by rw [hK]; exact ha.sq, fin0 st q (.tup ha ra)⟩⟩
  · cases hg
end
end EK

set_option Elab.async false
set_option linter.all false
set_option maxRecDepth 100000
set_option maxHeartbeats 4000000
namespace EK
open PySem L2 PySem.Spec PyProof.Rows
/-! ### repr of data -/
def dep60 (p : PyData) : Bool := Nat.ble p.depth 60
def shownL (p : PyData) : List Nat := p.shown.cps.toList
/-! data with dicts -/
def pyK : Key → PyData
  | .inl i => .int i
  | .inr x => .str x
mutual
def pyW : D → Option PyData
  | .non => some .none
  | .bl b => some (.bool b)
  | .int i => some (.int i)
  | .str s => some (.str ⟨s.toArray⟩)
  | .tup xs => (pyWA xs).map .tuple
  | .lst xs => (pyWA xs).map .list
  | .dic es => (pyWE es).map .dict
  | .fn _ => none
  | .loc _ => none
  | .frz _ => none
  | .exc _ _ => none
  | .opq => none
  | .adr _ => none
def pyWA : List D → Option (List PyData)
  | [] => some []
  | x :: xs => match pyW x, pyWA xs with
    | some p, some ps => some (p :: ps)
    | _, _ => none
def pyWE : List (Key × D) → Option (List (PyData × PyData))
  | [] => some []
  | (k, d) :: r => match pyW d, pyWE r with
    | some p, some q => some ((pyK k, p) :: q)
    | _, _ => none
end
mutual
theorem pyW_of : ∀ {d : D} {p : PyData}, py d = some p → pyW d = some p
  | .non, p, h => h
  | .bl b, p, h => h
  | .int i, p, h => h
  | .str s, p, h => h
  | .tup xs, p, h => by
    rw [py] at h
    cases e : pyA xs with
    | none => rw [e] at h; cases h
    | some ps => rw [e] at h; cases h; rw [pyW, pyWA_of e]; rfl
  | .lst xs, p, h => by
    rw [py] at h
    cases e : pyA xs with
    | none => rw [e] at h; cases h
    | some ps => rw [e] at h; cases h; rw [pyW, pyWA_of e]; rfl
  | .dic _, p, h => by cases h
  | .fn _, p, h => by cases h
  | .loc _, p, h => by cases h
  | .frz _, p, h => by cases h
  | .exc _ _, p, h => by cases h
  | .opq, p, h => by cases h
  | .adr _, p, h => by cases h
theorem pyWA_of : ∀ {ds : List D} {ps : List PyData}, pyA ds = some ps → pyWA ds = some ps
  | [], ps, h => h
  | d :: ds, ps, h => by
    obtain ⟨p, q, e1, e2, rfl⟩ := pyA_cons h
    rw [pyWA, pyW_of e1, pyWA_of e2]
end
theorem pyWA_cons {x : D} {xs : List D} {ps : List PyData} (h : pyWA (x :: xs) = some ps) : ∃ p q, pyW x = some p ∧ pyWA xs = some q ∧ ps = p :: q := by
  rw [pyWA] at h
  split at h
  · rename_i p q e1 e2
    cases h
    exact ⟨p, q, e1, e2, rfl⟩
  · cases h
theorem pyWE_vals : ∀ {es : List (Key × D)} {l : List (PyData × PyData)}, pyWE es = some l → pyWA (es.map (·.2)) = some (l.map (·.2)) ∧ l.map (·.1) = es.map fun e => pyK e.1
  | [], l, h => by cases h; exact ⟨rfl, rfl⟩
  | (k, d) :: r, l, h => by
    rw [pyWE] at h
    split at h
    · rename_i p q e1 e2
      cases h
      obtain ⟨i1, i2⟩ := pyWE_vals e2
      refine ⟨?_, by rw [List.map_cons, List.map_cons, i2]⟩
      rw [List.map_cons, List.map_cons, pyWA, e1, i1]
    · cases h
def reprD : List D → Option D
  | [d] => match pyW d with
    | some p => if PyData.showable p = true ∧ dep60 p = true ∧ (shownL p).length ≤ szL then some (.str (shownL p)) else none
    | none => none
  | _ => none
/-- the table of modules is a dict that stands fast -/
def SmK (K : PySem.W.Frag) : Prop := ∃ o : Obj, K.lookup sysModules = some o ∧ o.cls = .type "dict"
section
variable {X : Cx} {C : Ct} {pins : List (Addr × Obj)} {σ : L2.St} {H : Hp} {ρ : Rg} {s : Shared}
theorem keys_read {P : Program} {w : World} {h : Heap} {es : List DictEntry} {vs : List (Key × Value)} (pr : Pairs (mixKind P w) es vs) : ∀ {kvs : List (Key × V)} {ds : List (Key × D)}, KV kvs vs → kvs.map (·.1) = ds.map (·.1) →
    ReadsAll h (es.map (·.key)) (ds.map fun e => pyK e.1) [] ∧ Vals (kvs.map (·.2)) (es.map (·.val)) := by
  induction pr with
  | nil =>
    intro kvs ds kv e
    cases kv
    cases ds with
    | nil => exact ⟨.nil, .nil⟩
    | cons _ _ => cases e
  | @cons en q es vs h1 h2 h3 ih =>
    intro kvs ds kv e
    cases kv with
    | @cons p _ kvs _ q1 q2 =>
      cases ds with
      | nil => cases e
      | cons d ds =>
        rw [List.map_cons, List.map_cons] at e
        obtain ⟨e1, e2⟩ := List.cons.inj e
        obtain ⟨i1, i2⟩ := ih q2 e2
        have hk : keyIs d.1 en.key = true := by rw [← e1, q1.1]; exact h1
        refine ⟨?_, ?_⟩
        · rw [List.map_cons, List.map_cons]
          rcases keyIs_shape hk with ⟨i, t, a, b⟩ | ⟨x, t, a, b⟩
          · rw [a, b]; exact ReadsAll.cons (as := []) (.int i t) i1
          · rw [a, b]; exact ReadsAll.cons (as := []) (.str x t) i1
        · rw [List.map_cons, List.map_cons, h2]
          exact .cons q1.2 i2
theorem sm_ne (I : L2.Inv X pins σ H s) (hK : X.K = C.K) (sm : SmK C.K) {a : Addr} {o : Obj} (ho : s.heap.get? a = some o) (hc : o.cls = .type "list") : a ≠ sysModules := by
  intro e
  obtain ⟨m, h1, h2⟩ := sm
  have := I.kIn _ _ (by rw [hK]; exact h1)
  rw [← e, ho] at this
  cases this
  rw [hc] at h2
  exact absurd h2 (by decide)
mutual
theorem RepD.reads (I : L2.Inv X pins σ H s) (hK : X.K = C.K) (sm : SmK C.K) : ∀ {v : V} {d : D} {p : PyData} {u : Value}, RepD C H ρ v d → pyW d = some p → RelV v u → ∃ as, Reads s.heap u p as ∧ sysModules ∉ as
  | _, _, _, _, .non, e, r => by rw [pyW] at e; cases e; cases r; exact ⟨_, .none, by simp⟩
  | _, _, _, _, .bl b, e, r => by rw [pyW] at e; cases e; cases r; exact ⟨_, .bool b, by simp⟩
  | _, _, _, _, .int i, e, r => by rw [pyW] at e; cases e; obtain ⟨t, rfl⟩ := r; exact ⟨_, .int i t, by simp⟩
  | _, _, _, _, .str x, e, r => by rw [pyW] at e; cases e; obtain ⟨t, rfl⟩ := r; exact ⟨_, .str _ t, by simp⟩
  | _, _, _, _, .tup (a := a) (ds := ds) h ra, e, r => by
    rw [pyW] at e
    cases q : pyWA ds with
    | none => rw [q] at e; cases e
    | some ps =>
      rw [q] at e; cases e
      cases r
      obtain ⟨its, rv, ⟨o, ho, hc, n, hd⟩, _⟩ := I.tuple (by rw [hK]; exact h.sq)
      obtain ⟨as, hr, hn⟩ := RepA.reads I hK sm ra q rv
      exact ⟨_, .tuple ho hc hd hr, hn⟩
  | _, _, _, _, .lst (a := a) (ds := ds) h ra, e, r => by
    rw [pyW] at e
    cases q : pyWA ds with
    | none => rw [q] at e; cases e
    | some ps =>
      rw [q] at e; cases e
      cases r
      obtain ⟨its, rv, ⟨o, n, ho, hc, _, hd⟩, _⟩ := I.list (a := a) (.inl (.inl h.1))
      obtain ⟨as, hr, hn⟩ := RepA.reads I hK sm ra q rv
      refine ⟨_, .list ho hc hd hr, fun z => ?_⟩
      rcases List.mem_cons.mp z with z | z
      · exact sm_ne I hK sm ho hc z.symm
      · exact hn z
  | _, _, _, _, .dic (a := a) (kvs := kvs) (es := es) h ha e0 ra, e, r => by
    rw [pyW] at e
    cases q : pyWE es with
    | none => rw [q] at e; cases e
    | some l =>
      rw [q] at e; cases e
      cases r
      obtain ⟨_, hsm, vs, kv, o, en, ep, ho, hx, hd, _, pr, _⟩ := I.hok a _ h
      obtain ⟨q1, q2⟩ := pyWE_vals q
      obtain ⟨k1, k2⟩ := keys_read (h := s.heap) pr kv e0
      obtain ⟨bs, hr, hn⟩ := RepA.reads I hK sm ra q1 k2
      rw [← q2] at k1
      refine ⟨_, .dict ho hx.1 hd k1 hr, fun z => ?_⟩
      rcases List.mem_cons.mp z with z | z
      · rw [← z] at hsm; simp at hsm
      · exact hn z
  | _, _, _, _, .fn _, e, _ => by rw [pyW] at e; cases e
  | _, _, _, _, .frz _ _, e, _ => by rw [pyW] at e; cases e
  | _, _, _, _, .exc0 _ _ _, e, _ => by rw [pyW] at e; cases e
  | _, _, _, _, .exc1 _ _ _ _ _ _, e, _ => by rw [pyW] at e; cases e
  | _, _, _, _, .opq _, e, _ => by rw [pyW] at e; cases e
  | _, _, _, _, .adr _, e, _ => by rw [pyW] at e; cases e
theorem RepA.reads (I : L2.Inv X pins σ H s) (hK : X.K = C.K) (sm : SmK C.K) : ∀ {vs : List V} {ds : List D} {ps : List PyData} {us : List Value}, RepA C H ρ vs ds → pyWA ds = some ps → Vals vs us → ∃ as, ReadsAll s.heap us ps as ∧ sysModules ∉ as
  | _, _, _, _, .nil, e, r => by rw [pyWA] at e; cases e; cases r; exact ⟨_, .nil, by simp⟩
  | _, _, _, _, .cons h ra, e, r => by
    obtain ⟨p, q, e1, e2, rfl⟩ := pyWA_cons e
    cases r with
    | cons r1 r2 =>
      obtain ⟨as, q1, n1⟩ := RepD.reads I hK sm h e1 r1
      obtain ⟨bs, q2, n2⟩ := RepA.reads I hK sm ra e2 r2
      exact ⟨_, .cons q1 q2, fun z => (List.mem_append.mp z).elim n1 n2⟩
end
theorem VwR.reads (I : L2.Inv X pins σ H s) (hK : X.K = C.K) (sm : SmK C.K) {v : V} {d : D} {p : PyData} {u : Value} (h : VwR C H ρ v d) (e : pyW d = some p) (r : RelV v u) : ∃ as, Reads s.heap u p as ∧ sysModules ∉ as := by
  rcases h with h | ⟨a, ds, rfl, rfl, xs, q1, ra⟩ | ⟨a, es, rfl, rfl, kvs, q1, q2, ra⟩
  · exact h.reads I hK sm e r
  · rw [pyW] at e
    cases q : pyWA ds with
    | none => rw [q] at e; cases e
    | some ps =>
      rw [q] at e; cases e
      cases r
      obtain ⟨its, rv, ⟨o, n, ho, hc, _, hd⟩, _⟩ := I.list (a := a) (.inl (.inl q1))
      obtain ⟨as, hr, hn⟩ := RepA.reads I hK sm ra q rv
      refine ⟨_, .list ho hc hd hr, fun z => ?_⟩
      rcases List.mem_cons.mp z with z | z
      · exact sm_ne I hK sm ho hc z.symm
      · exact hn z
  · rw [pyW] at e
    cases q : pyWE es with
    | none => rw [q] at e; cases e
    | some l =>
      rw [q] at e; cases e
      cases r
      obtain ⟨_, hsm, vs, kv, o, en, ep, ho, hx, hd, _, pr, _⟩ := I.hok a _ q1
      obtain ⟨w1, w2⟩ := pyWE_vals q
      obtain ⟨k1, k2⟩ := keys_read (h := s.heap) pr kv q2
      obtain ⟨bs, hr, hn⟩ := RepA.reads I hK sm ra w1 k2
      rw [← w2] at k1
      refine ⟨_, .dict ho hx.1 hd k1 hr, fun z => ?_⟩
      rcases List.mem_cons.mp z with z | z
      · rw [← z] at hsm; simp at hsm
      · exact hn z
end
section
variable {X : Cx} {C : Ct}
theorem str_back (x : Str) : (⟨x.cps.toList.toArray⟩ : Str) = x := by cases x; simp
theorem call_reprP (hK : X.K = C.K) (sm : SmK C.K) (gd : X.A.guards = some []) (hu : X.A.units + 65 < cLine) : CallR X (.builtin "repr") (rPn C reprD) := by
  intro pins s σ H xs us Q I r h
  obtain ⟨ρ, S, ds, z, st, hx, hg, q⟩ := h
  unfold reprD at hg
  split at hg
  · rename_i d
    split at hg
    · rename_i p ep
      split at hg
      · rename_i hc
        obtain ⟨h1, h2, h3⟩ := hc
        cases hg
        obtain ⟨x, rfl, hv⟩ := vw1 hx
        obtain ⟨u, rfl, ru⟩ := vals1 r
        obtain ⟨as, rd, nsm⟩ := hv.reads I hK sm ep ru
        have hz : p.shown.length ≤ sizeLine := by
          have : p.shown.length = (shownL p).length := by unfold shownL; exact Array.size_eq_length_toList
          rw [this, szL_eq]; exact h3
        have hd : p.depth ≤ 60 := Nat.le_of_ble_eq_true h2
        have fin : ∀ (h' : Heap) (t tk : Nat), (∀ b o, s.heap.get? b = some o → h'.get? b = some o) → EP X pins σ Q (.str p.shown t) { s with heap := h', toks := tk } := by
          intro h' t tk keep
          refine ⟨.str p.shown, H, I.kept keep, ⟨_, rfl⟩, ?_⟩
          have := fin0 st q (.str (shownL p))
          rw [show (⟨(shownL p).toArray⟩ : Str) = p.shown from str_back _] at this
          exact this
        cases u with
        | ref a => exact PySem.repr_of_reads' rd h1 (fun _ => nsm) gd (by omega) (fun _ _ e => e) (fun h' t tk keep => fin h' t tk keep) hz
        | none =>
          cases rd
          exact P.repr_of_none (fin s.heap _ _ fun _ _ e => e)
        | bool b =>
          cases rd
          have := fin s.heap s.toks (s.toks + 1) fun _ _ e => e
          rw [PyData.shown_bool] at this
          exact P.repr_of_bool this
        | int i t =>
          cases rd
          have := fin s.heap s.toks (s.toks + 1) fun _ _ e => e
          rw [PyData.shown_int] at this
          refine P.repr_of_int ?_ this
          rw [PyData.showable] at h1
          exact of_decide_eq_true h1
        | str y t =>
          cases rd
          have := fin s.heap s.toks (s.toks + 1) fun _ _ e => e
          rw [PyData.shown_str] at this hz
          exact P.repr_of_str this hz
        | _ => cases rd
      · cases hg
    · cases hg
  · cases hg
end
end EK

set_option Elab.async false
set_option linter.all false
set_option maxRecDepth 100000
set_option maxHeartbeats 4000000
namespace EK
open PySem PySem.W L2 PySem.Spec PyProof.Rows
/-! ### zip and enumerate over anything that stands still -/
/-- what is walked: a list, a tuple, a text -/
inductive Kd where
  | l (a : Addr) | t (a : Addr) | s (z : Str)
def Kd.v : Kd → V
  | .l a => .ref a
  | .t a => .ref a
  | .s z => .str z
def Kd.at_ (K : PySem.W.Frag) (H : Hp) : Kd → List V → Prop
  | .l a, xs => SqL K H a xs
  | .t a, xs => SqT K H a xs
  | .s z, xs => xs = z.cps.toList.map fun c => V.str ⟨#[c]⟩
/-- the iterator of such a thing, at turn i -/
def Kd.tn : Kd → Value → Addr → Nat → Heap → Prop
  | .l a, _, it, i, h => h.IsListIter it a i
  | .t a, _, it, i, h => h.IsTupleIter it a i
  | .s z, u, it, i, h => ∃ t, u = .str z t ∧ h.IsStrIter it (strIterType z) z t i
def Kd.fp : Kd → List Addr
  | .l a => [a]
  | .t a => [a]
  | .s _ => []
/-- such a thing as it stands now: what begins, what is drawn -/
structure Src (k : Kd) (u : Value) (xs : List V) (s : Heap) : Prop where
  ex : ∃ (o : Obj) (S : Heap → Prop), S s ∧ Begins u o S ∧ (∀ (h : Heap) (it : Addr), h.get? it = some o → k.tn u it 0 h) ∧
    ∀ (P : Program) (w : World) (A : Around) (it : Addr), A.handled = none → it ∉ k.fp → Draws P w A it (it :: k.fp) xs.length (fun i y => ∃ x, xs[i]? = some x ∧ RelV x y) (fun i h => k.tn u it i h ∧ S h)
  low : ∀ b ∈ k.fp, b < s.objs.size
theorem drawsImp {P : Program} {w : World} {A : Around} {it : Addr} {fp : List Addr} {n m : Nat} {Y Y' : Nat → Value → Prop} {St St' : Nat → Heap → Prop} (D : Draws P w A it fp n Y St) (e : n = m) (hy : ∀ i y, Y i y → Y' i y) (hs : ∀ i h, St i h ↔ St' i h) : Draws P w A it fp m Y' St' := by
  have es : St = St' := funext fun i => funext fun h => propext (hs i h)
  subst es e
  exact ⟨D.live, D.frame, fun i s Q E hi st q => D.item i s Q E hi st fun x h' tk y st' sb => q x h' tk (hy i x y) st' sb, D.done⟩
section
variable {X : Cx} {pins : List (Addr × Obj)} {σ : L2.St} {H : Hp} {s : Shared}
theorem valsAt {xs : List V} {us : List Value} (h : Vals xs us) {i : Nat} {y : Value} (e : us[i]? = some y) : ∃ x, xs[i]? = some x ∧ RelV x y := by
  induction h generalizing i with
  | nil => simp at e
  | cons a r ih =>
    cases i with
    | zero => simp at e; subst e; exact ⟨_, rfl, a⟩
    | succ j => simpa using ih (by simpa using e)
theorem src_of (I : Inv X pins σ H s) {k : Kd} {u : Value} {xs : List V} (h : k.at_ X.K H xs) (r : RelV k.v u) : Src k u xs s.heap := by
  cases k with
  | l a =>
    have h : SqL X.K H a xs := h
    obtain ⟨its, rv, pl, _⟩ := I.list h
    have r : u = .ref a := r
    subst r
    have hl := rv.length
    refine ⟨⟨_, _, pl.isList, begins_list a its.toArray, fun h it e => ⟨_, e, rfl, rfl⟩, fun P w A it hh hn => ?_⟩, fun b hb => ?_⟩
    · refine drawsImp (Draws.list hh it a (fun z => hn (by rw [← z]; exact List.mem_singleton_self a)) its.toArray) (by simp [hl]) (fun i y e => valsAt rv (by simpa using e)) fun i h => Iff.rfl
    · rw [List.mem_singleton.mp hb]
      obtain ⟨o, ho, _⟩ := pl.isList
      exact Heap.lt_size ho
  | t a =>
    have h : SqT X.K H a xs := h
    obtain ⟨its, rv, pl, _⟩ := I.tuple h
    have r : u = .ref a := r
    subst r
    have hl := rv.length
    have pl : s.heap.IsTuple a its.toArray := pl
    refine ⟨⟨_, _, pl, begins_tuple a its.toArray, fun h it e => ⟨_, e, rfl, rfl⟩, fun P w A it hh hn => ?_⟩, fun b hb => ?_⟩
    · refine drawsImp (Draws.tuple hh it a (fun z => hn (by rw [← z]; exact List.mem_singleton_self a)) its.toArray) (by simp [hl]) (fun i y e => valsAt rv (by simpa using e)) fun i h => Iff.rfl
    · rw [List.mem_singleton.mp hb]
      obtain ⟨o, ho, _⟩ := pl
      exact Heap.lt_size ho
  | s z =>
    have h : xs = z.cps.toList.map fun c => V.str ⟨#[c]⟩ := h
    obtain ⟨t, r⟩ : ∃ t, u = .str z t := r
    subst r h
    refine ⟨⟨_, _, trivial, begins_text z t, fun h it e => ⟨t, rfl, _, e, rfl, rfl⟩, fun P w A it hh _ => ?_⟩, fun b hb => by cases hb⟩
    refine drawsImp (Draws.text hh it z t) (by simp) (fun i y e => ?_) fun i h => ⟨fun q => ⟨⟨t, rfl, q⟩, trivial⟩, fun ⟨⟨t', e, q⟩, _⟩ => by cases e; exact q⟩
    obtain ⟨c, t2, e1, rfl⟩ := e
    refine ⟨.str ⟨#[c]⟩, ?_, t2, rfl⟩
    rw [List.getElem?_map]
    have : z.cps.toList[i]? = some c := by simpa using e1
    rw [this]; rfl
theorem Kd.keep {k : Kd} {u : Value} {it : Addr} {i : Nat} {h h' : Heap} (t : k.tn u it i h) (e : ∀ o, h.get? it = some o → h'.get? it = some o) : k.tn u it i h' := by
  cases k with
  | l a => obtain ⟨o, ho, r⟩ := t; exact ⟨o, e o ho, r⟩
  | t a => obtain ⟨o, ho, r⟩ := t; exact ⟨o, e o ho, r⟩
  | s z => obtain ⟨t, e1, o, ho, r⟩ := t; exact ⟨t, e1, o, e o ho, r⟩
theorem Kd.obj {k : Kd} {u : Value} {it : Addr} {i : Nat} {h : Heap} (t : k.tn u it i h) : ∃ o, h.get? it = some o ∧ ∀ v, o.data ≠ .cell v := by
  cases k with
  | l a => obtain ⟨o, ho, _, r⟩ := t; exact ⟨o, ho, fun v z => by rw [r] at z; cases z⟩
  | t a => obtain ⟨o, ho, _, r⟩ := t; exact ⟨o, ho, fun v z => by rw [r] at z; cases z⟩
  | s z => obtain ⟨t, e1, o, ho, _, r⟩ := t; exact ⟨o, ho, fun v z => by rw [r] at z; cases z⟩
end
end EK

set_option Elab.async false
set_option linter.all false
set_option maxRecDepth 100000
set_option maxHeartbeats 4000000
namespace EK
open PySem PySem.W L2 PySem.Spec PyProof.Rows
/-- a walk whose items are new tuples -/
theorem turn_new {P : Program} {w : World} {K : PySem.W.Frag} {tg : Expr} {J : It} {fp wr : List Addr} {it : Addr} {tn : Nat → Heap → Prop} (mem : it ∈ fp) (sub : ∀ b ∈ wr, b ∈ fp)
    (obj : ∀ i h, tn i h → ∀ b ∈ fp, ∃ o, h.get? b = some o ∧ ∀ v, o.data ≠ .cell v) (keep : ∀ i h h', tn i h → (∀ b ∈ fp, ∀ o, h.get? b = some o → h'.get? b = some o) → tn i h')
    (go : ∀ (X : Cx), X.prog = P → X.w = w → X.K = K → X.calm = true → ∀ (i : Nat) (pins : List (Addr × Obj)) (s : Shared) (σ : L2.St) (H : Hp), Inv X pins σ H s → tn i s.heap → J.go i H →
      ∃ (fG : List Addr) (n : Nat) (Y : Nat → Heap → Value → Heap → Prop) (SG : Nat → Heap → Prop), GoesN P w X.A tg it fG wr n Y SG ∧ i < n ∧ SG i s.heap ∧ (∀ h', SG (i + 1) h' → tn (i + 1) h') ∧
        ∀ v h', Y i s.heap v h' → ∃ (xs : List V) (T : Addr) (us : List Value), v = .ref T ∧ s.heap.objs.size ≤ T ∧ h'.IsTuple T us.toArray ∧ Vals xs us ∧ xs.length ≤ sizeLine ∧ (H T = none → J.yld i H (.ref T) (upd H T (.tup xs))))
    (stop : ∀ (X : Cx), X.prog = P → X.w = w → X.K = K → X.calm = true → ∀ (i : Nat) (pins : List (Addr × Obj)) (s : Shared) (σ : L2.St) (H : Hp), Inv X pins σ H s → tn i s.heap → J.stop i H →
      ∃ (fG : List Addr) (Y : Nat → Heap → Value → Heap → Prop) (SG : Nat → Heap → Prop), GoesN P w X.A tg it fG wr i Y SG ∧ SG i s.heap)
    (self : ∀ (A : Around) (i : Nat) (s : Shared) (Q : Value → Shared → Prop) (E : Value → Shared → Prop), tn i s.heap → Q (.ref it) s → wpAny (model P w) A (pyIter (.ref it)) Q E s) : Turn P w K tg J fp it tn where
  mem := mem
  obj := obj
  keep := keep
  item := by
    intro X hP hw hK hc i pins s σ H E I hf st hg
    obtain ⟨fG, n, Y, SG, gN, hi, sg, nx, yd⟩ := go X hP hw hK hc i pins s σ H I st hg
    refine wpAny_mono (gN.goes i s (fun v s2 => ∃ x H', Inv X pins σ H' s2 ∧ RelV x v ∧ J.yld i H x H' ∧ tn (i + 1) s2.heap ∧ ∀ b ∈ fp, H' b = none) E hi sg ?_) (fun r s1 q => q) fun _ _ q => q
    intro v h' tk y sg' kp _
    obtain ⟨xs, T, us, rfl, hT, tup, vl, sz, yl⟩ := yd v h' y
    have hn : H T = none := I.hok.fresh hT
    have new : ObjOk X.prog X.w (upd H T (.tup xs)) h' T (.tup xs) := ⟨sz, us, vl, tup⟩
    refine ⟨.ref T, upd H T (.tup xs), I.turnedNew (ch := wr) kp (fun b hb => hf b (sub b hb)) hT new, rfl, yl hn, nx h' sg', fun b hb => ?_⟩
    obtain ⟨o, ho, _⟩ := obj i s.heap st b hb
    rw [upd_ne (Nat.ne_of_lt (Nat.lt_of_lt_of_le (Heap.lt_size ho) hT))]
    exact (hf b hb).1
  done := by
    intro X hP hw hK hc i pins s σ H E I hf st hg
    obtain ⟨fG, Y, SG, gN, sg⟩ := stop X hP hw hK hc i pins s σ H I st hg
    exact gN.stops s _ E sg fun h' tk kp _ => I.turnedL (ch := wr) kp fun b hb => hf b (sub b hb)
  self := self
/-! ### the three walks -/
def Iten (K : PySem.W.Frag) (k : Kd) : It :=
  ⟨fun i H => ∃ xs, k.at_ K H xs ∧ i < xs.length, fun i H v H' => ∃ T x, v = .ref T ∧ H T = none ∧ H' = upd H T (.tup [.int (i : Nat), x]) ∧ ∀ xs, k.at_ K H xs → xs[i]? = some x, fun i H => ∃ xs, k.at_ K H xs ∧ i = xs.length⟩
def Itz2 (K : PySem.W.Frag) (k1 k2 : Kd) : It :=
  ⟨fun i H => ∃ xs ys, k1.at_ K H xs ∧ k2.at_ K H ys ∧ i < min xs.length ys.length,
   fun i H v H' => ∃ T x y, v = .ref T ∧ H T = none ∧ H' = upd H T (.tup [x, y]) ∧ (∀ xs, k1.at_ K H xs → xs[i]? = some x) ∧ ∀ ys, k2.at_ K H ys → ys[i]? = some y,
   fun i H => ∃ xs ys, k1.at_ K H xs ∧ k2.at_ K H ys ∧ i = min xs.length ys.length⟩
def Itz3 (K : PySem.W.Frag) (k1 k2 k3 : Kd) : It :=
  ⟨fun i H => ∃ xs ys zs, k1.at_ K H xs ∧ k2.at_ K H ys ∧ k3.at_ K H zs ∧ i < min (min xs.length ys.length) zs.length,
   fun i H v H' => ∃ T x y z, v = .ref T ∧ H T = none ∧ H' = upd H T (.tup [x, y, z]) ∧ (∀ xs, k1.at_ K H xs → xs[i]? = some x) ∧ (∀ ys, k2.at_ K H ys → ys[i]? = some y) ∧ ∀ zs, k3.at_ K H zs → zs[i]? = some z,
   fun i H => ∃ xs ys zs, k1.at_ K H xs ∧ k2.at_ K H ys ∧ k3.at_ K H zs ∧ i = min (min xs.length ys.length) zs.length⟩
theorem sqT_inj {X : Cx} {pins : List (Addr × Obj)} {σ : L2.St} {H : Hp} {s : Shared} {a : Addr} {xs ys : List V} (I : Inv X pins σ H s) (h : SqT X.K H a xs) (g : SqT X.K H a ys) : xs = ys := I.tuple_inj h g
theorem Kd.inj {X : Cx} {pins : List (Addr × Obj)} {σ : L2.St} {H : Hp} {s : Shared} {k : Kd} {xs ys : List V} (I : Inv X pins σ H s) (h : k.at_ X.K H xs) (g : k.at_ X.K H ys) : xs = ys := by
  cases k with
  | l a => exact I.list_inj h g
  | t a => exact sqT_inj I h g
  | s z => exact h.trans g.symm
theorem turn_enm {P : Program} {w : World} {K : PySem.W.Frag} {elts : List Expr} {kk : Nat} {tpos : Pos} {k : Kd} {u : Value} {e it : Addr} (ru : RelV k.v u) (hei : e ≠ it) (hef : e ∉ k.fp) (hif : it ∉ k.fp) :
    Turn P w K (.Tuple elts kk tpos) (Iten K k) [e, it] e (fun i h => (∃ old, IsEnum h e it ((0 : Int) + (i : Int)) old) ∧ k.tn u it i h) := by
  refine turn_new (wr := [e, it]) (by simp) (fun b hb => hb) (fun i h st b hb => ?_) (fun i h h' st kp => ?_) (fun X hP hw hK hc i pins s σ H I st hg => ?_) (fun X hP hw hK hc i pins s σ H I st hg => ?_) (fun A i s Q E st h => ?_)
  · obtain ⟨⟨old, he⟩, t⟩ := st
    rcases List.mem_cons.mp hb with rfl | hb
    · exact ⟨_, he, fun v q => by cases q⟩
    · rw [List.mem_singleton.mp hb]; exact Kd.obj t
  · obtain ⟨⟨old, he⟩, t⟩ := st
    exact ⟨⟨old, kp e (by simp) _ he⟩, Kd.keep t fun o => kp it (by simp) o⟩
  · subst hP hw hK
    obtain ⟨he, t⟩ := st
    obtain ⟨xs, q, hi⟩ := hg
    obtain ⟨⟨o, S, sh, _, _, dr⟩, _⟩ := src_of I q ru
    refine ⟨_, _, _, _, GoesN.enumFrom 0 (dr X.prog X.w X.A.in1 it (I.ok.hd hc) hif) e hei (fun z => (List.mem_cons.mp z).elim hei hef) (by simp), hi, ⟨he, t, sh⟩, fun h' q => ⟨q.1, q.2.1⟩, ?_⟩
    rintro v h' ⟨T, tk, x, rfl, hT, ⟨y, hy, ry⟩, tup⟩
    refine ⟨[.int ((0 : Int) + (i : Int)), y], T, [.int ((0 : Int) + (i : Int)) tk, x], rfl, hT, tup, .cons ⟨_, rfl⟩ (.cons ry .nil), by show 2 ≤ sizeLine; decide, fun hn => ⟨T, y, rfl, hn, by rw [Int.zero_add], fun ys hys => ?_⟩⟩
    rw [Kd.inj I hys q]; exact hy
  · subst hP hw hK
    obtain ⟨he, t⟩ := st
    obtain ⟨xs, q, rfl⟩ := hg
    obtain ⟨⟨o, S, sh, _, _, dr⟩, _⟩ := src_of I q ru
    exact ⟨_, _, _, GoesN.enumFrom 0 (dr X.prog X.w X.A.in1 it (I.ok.hd hc) hif) e hei (fun z => (List.mem_cons.mp z).elim hei hef) (by simp), he, t, sh⟩
  · obtain ⟨⟨old, he⟩, _⟩ := st
    exact wpAny_pyIter_enum he h
theorem turn_z2 {P : Program} {w : World} {K : PySem.W.Frag} {elts : List Expr} {kk : Nat} {tpos : Pos} {k1 k2 : Kd} {u1 u2 : Value} {z TI TO i1 i2 : Addr} (r1 : RelV k1.v u1) (r2 : RelV k2.v u2) (S : ZipSep2 z TI TO i1 i2 (i1 :: k1.fp) (i2 :: k2.fp)) (n1 : i1 ∉ k1.fp) (n2 : i2 ∉ k2.fp) :
    Turn P w K (.Tuple elts kk tpos) (Itz2 K k1 k2) [z, TI, TO, i1, i2] z (fun i h => IsZip h z TI TO .none ∧ IsTupOf2 h TI (.ref i1) (.ref i2) ∧ (∃ a1 a2, IsTupOf2 h TO a1 a2) ∧ k1.tn u1 i1 i h ∧ k2.tn u2 i2 i h) := by
  refine turn_new (wr := [z, TO, i1, i2]) (by simp) (fun b hb => ?_) (fun i h st b hb => ?_) (fun i h h' st kp => ?_) (fun X hP hw hK hc i pins s σ H I st hg => ?_) (fun X hP hw hK hc i pins s σ H I st hg => ?_) (fun A i s Q E st h => ?_)
  · simp only [List.mem_cons, List.not_mem_nil, or_false] at hb ⊢
    rcases hb with h | h | h | h <;> simp [h]
  · obtain ⟨hz, hTI, ⟨a1, a2, hTO⟩, t1, t2⟩ := st
    simp only [List.mem_cons, List.not_mem_nil, or_false] at hb
    rcases hb with rfl | rfl | rfl | rfl | rfl
    · exact ⟨_, hz, fun v q => by cases q⟩
    · exact ⟨_, hTI, fun v q => by cases q⟩
    · exact ⟨_, hTO, fun v q => by cases q⟩
    · exact Kd.obj t1
    · exact Kd.obj t2
  · obtain ⟨hz, hTI, ⟨a1, a2, hTO⟩, t1, t2⟩ := st
    exact ⟨kp _ (by simp) _ hz, kp _ (by simp) _ hTI, ⟨a1, a2, kp _ (by simp) _ hTO⟩, Kd.keep t1 fun o => kp _ (by simp) o, Kd.keep t2 fun o => kp _ (by simp) o⟩
  · subst hP hw hK
    obtain ⟨hz, hTI, hTO, t1, t2⟩ := st
    obtain ⟨xs, ys, q1, q2, hi⟩ := hg
    obtain ⟨⟨o1, S1, sh1, _, _, d1⟩, _⟩ := src_of I q1 r1
    obtain ⟨⟨o2, S2, sh2, _, _, d2⟩, _⟩ := src_of I q2 r2
    refine ⟨_, _, _, _, GoesN.zip2 S (d1 X.prog X.w X.A.in1 i1 (I.ok.hd hc) n1) (d2 X.prog X.w X.A.in1 i2 (I.ok.hd hc) n2), hi, ⟨hz, hTI, hTO, ⟨t1, sh1⟩, ⟨t2, sh2⟩⟩, fun h' q => ⟨q.1, q.2.1, q.2.2.1, q.2.2.2.1.1, q.2.2.2.2.1⟩, ?_⟩
    rintro v h' ⟨T, x, y, rfl, hT, ⟨x', hx, rx⟩, ⟨y', hy, ry⟩, tup⟩
    refine ⟨[x', y'], T, [x, y], rfl, hT, tup, .cons rx (.cons ry .nil), by show 2 ≤ sizeLine; decide, fun hn => ⟨T, x', y', rfl, hn, rfl, fun zs hz => ?_, fun zs hz => ?_⟩⟩
    · rw [Kd.inj I hz q1]; exact hx
    · rw [Kd.inj I hz q2]; exact hy
  · subst hP hw hK
    obtain ⟨hz, hTI, hTO, t1, t2⟩ := st
    obtain ⟨xs, ys, q1, q2, rfl⟩ := hg
    obtain ⟨⟨o1, S1, sh1, _, _, d1⟩, _⟩ := src_of I q1 r1
    obtain ⟨⟨o2, S2, sh2, _, _, d2⟩, _⟩ := src_of I q2 r2
    exact ⟨_, _, _, GoesN.zip2 S (d1 X.prog X.w X.A.in1 i1 (I.ok.hd hc) n1) (d2 X.prog X.w X.A.in1 i2 (I.ok.hd hc) n2), hz, hTI, hTO, ⟨t1, sh1⟩, ⟨t2, sh2⟩⟩
  · exact wpAny_pyIter_zip st.1 h
theorem turn_z3 {P : Program} {w : World} {K : PySem.W.Frag} {elts : List Expr} {kk : Nat} {tpos : Pos} {k1 k2 k3 : Kd} {u1 u2 u3 : Value} {z TI TO i1 i2 i3 : Addr} (r1 : RelV k1.v u1) (r2 : RelV k2.v u2) (r3 : RelV k3.v u3) (S : ZipSep3 z TI TO i1 i2 i3 (i1 :: k1.fp) (i2 :: k2.fp) (i3 :: k3.fp)) (n1 : i1 ∉ k1.fp) (n2 : i2 ∉ k2.fp) (n3 : i3 ∉ k3.fp) :
    Turn P w K (.Tuple elts kk tpos) (Itz3 K k1 k2 k3) [z, TI, TO, i1, i2, i3] z (fun i h => IsZip h z TI TO .none ∧ IsTupOf3 h TI (.ref i1) (.ref i2) (.ref i3) ∧ (∃ a1 a2 a3, IsTupOf3 h TO a1 a2 a3) ∧ k1.tn u1 i1 i h ∧ k2.tn u2 i2 i h ∧ k3.tn u3 i3 i h) := by
  refine turn_new (wr := [z, TO, i1, i2, i3]) (by simp) (fun b hb => ?_) (fun i h st b hb => ?_) (fun i h h' st kp => ?_) (fun X hP hw hK hc i pins s σ H I st hg => ?_) (fun X hP hw hK hc i pins s σ H I st hg => ?_) (fun A i s Q E st h => ?_)
  · simp only [List.mem_cons, List.not_mem_nil, or_false] at hb ⊢
    rcases hb with h | h | h | h | h <;> simp [h]
  · obtain ⟨hz, hTI, ⟨a1, a2, a3, hTO⟩, t1, t2, t3⟩ := st
    simp only [List.mem_cons, List.not_mem_nil, or_false] at hb
    rcases hb with rfl | rfl | rfl | rfl | rfl | rfl
    · exact ⟨_, hz, fun v q => by cases q⟩
    · exact ⟨_, hTI, fun v q => by cases q⟩
    · exact ⟨_, hTO, fun v q => by cases q⟩
    · exact Kd.obj t1
    · exact Kd.obj t2
    · exact Kd.obj t3
  · obtain ⟨hz, hTI, ⟨a1, a2, a3, hTO⟩, t1, t2, t3⟩ := st
    exact ⟨kp _ (by simp) _ hz, kp _ (by simp) _ hTI, ⟨a1, a2, a3, kp _ (by simp) _ hTO⟩, Kd.keep t1 fun o => kp _ (by simp) o, Kd.keep t2 fun o => kp _ (by simp) o, Kd.keep t3 fun o => kp _ (by simp) o⟩
  · subst hP hw hK
    obtain ⟨hz, hTI, hTO, t1, t2, t3⟩ := st
    obtain ⟨xs, ys, zs, q1, q2, q3, hi⟩ := hg
    obtain ⟨⟨o1, S1, sh1, _, _, d1⟩, _⟩ := src_of I q1 r1
    obtain ⟨⟨o2, S2, sh2, _, _, d2⟩, _⟩ := src_of I q2 r2
    obtain ⟨⟨o3, S3, sh3, _, _, d3⟩, _⟩ := src_of I q3 r3
    refine ⟨_, _, _, _, GoesN.zip3 S (d1 X.prog X.w X.A.in1 i1 (I.ok.hd hc) n1) (d2 X.prog X.w X.A.in1 i2 (I.ok.hd hc) n2) (d3 X.prog X.w X.A.in1 i3 (I.ok.hd hc) n3), hi, ⟨hz, hTI, hTO, ⟨t1, sh1⟩, ⟨t2, sh2⟩, ⟨t3, sh3⟩⟩, fun h' q => ⟨q.1, q.2.1, q.2.2.1, q.2.2.2.1.1, q.2.2.2.2.1.1, q.2.2.2.2.2.1⟩, ?_⟩
    rintro v h' ⟨T, x, y, u, rfl, hT, ⟨x', hx, rx⟩, ⟨y', hy, ry⟩, ⟨u', hu, rv⟩, tup⟩
    refine ⟨[x', y', u'], T, [x, y, u], rfl, hT, tup, .cons rx (.cons ry (.cons rv .nil)), by show 3 ≤ sizeLine; decide, fun hn => ⟨T, x', y', u', rfl, hn, rfl, fun zs hz => ?_, fun zs hz => ?_, fun zs hz => ?_⟩⟩
    · rw [Kd.inj I hz q1]; exact hx
    · rw [Kd.inj I hz q2]; exact hy
    · rw [Kd.inj I hz q3]; exact hu
  · subst hP hw hK
    obtain ⟨hz, hTI, hTO, t1, t2, t3⟩ := st
    obtain ⟨xs, ys, zs, q1, q2, q3, rfl⟩ := hg
    obtain ⟨⟨o1, S1, sh1, _, _, d1⟩, _⟩ := src_of I q1 r1
    obtain ⟨⟨o2, S2, sh2, _, _, d2⟩, _⟩ := src_of I q2 r2
    obtain ⟨⟨o3, S3, sh3, _, _, d3⟩, _⟩ := src_of I q3 r3
    exact ⟨_, _, _, GoesN.zip3 S (d1 X.prog X.w X.A.in1 i1 (I.ok.hd hc) n1) (d2 X.prog X.w X.A.in1 i2 (I.ok.hd hc) n2) (d3 X.prog X.w X.A.in1 i3 (I.ok.hd hc) n3), hz, hTI, hTO, ⟨t1, sh1⟩, ⟨t2, sh2⟩, ⟨t3, sh3⟩⟩
  · exact wpAny_pyIter_zip st.1 h
end EK

set_option Elab.async false
set_option linter.all false
set_option maxRecDepth 100000
set_option maxHeartbeats 4000000
namespace EK
open PySem PySem.W L2 PySem.Spec PyProof.Rows
abbrev enO (N : Nat) : Obj := { cls := .type "enumerate", data := .fields #[.none, .bool false, .ref N, rawInt 0, .none, .none] }
/-- enumerate(v) -/
theorem meets_enm {v : Value} {o : Obj} {S : Heap → Prop} (B : Begins v o S) :
    Meets (Builtin.«enumerate.__new__» ⟨[.type "enumerate", v], []⟩) (fun _ R s => S s.heap ∧ R (.ok (.ret (.ref (s.heap.push o).objs.size))) { s with heap := (s.heap.push o).push (enO s.heap.objs.size) }) := by
  refine .of_wp ?_
  intro prog w A R s h
  obtain ⟨hp, g, d, tk, os⟩ := s
  obtain ⟨h1, h⟩ := h
  have hsub := sub_enumerate
  have q1 : ∀ {A' : Around} {E : Value → Shared → Prop} {Q : Value → Shared → Prop}, Q (.ref hp.objs.size) ⟨hp.push o, g, d, tk, os⟩ → wpAny (model prog w) A' (pyIter v) Q E ⟨hp, g, d, tk, os⟩ := by
    intro A' E Q q
    exact B.iter prog w _ _ ⟨hp, g, d, tk, os⟩ _ h1 q
  wp_walk using q1
  refine wpAny_stack_any fun st => wpAny_pure ?_
  split
  · rename_i c _ _ _ _ _
    cases (c == Value.type "enumerate")
    all_goals (wp_walk using q1; exact ⟨_, rfl, h⟩)
  · wp_walk using q1
    exact ⟨_, rfl, h⟩
section
variable {prog : Program} {w : World} {A : Around} {E : Value → Shared → Prop} {s : Shared}
theorem enm_begins {v : Value} {o : Obj} {S : Heap → Prop} {Q : Value → Shared → Prop} (B : Begins v o S) (h1 : S s.heap)
    (h : ∀ h', IsEnum h' (s.heap.objs.size + 1) s.heap.objs.size 0 .none → h'.get? s.heap.objs.size = some o → (∀ b o, s.heap.get? b = some o → h'.get? b = some o) → Q (.ref (s.heap.objs.size + 1)) { s with heap := h' }) :
    wpAny (model prog w) A (call (.type "enumerate") [v]) Q E s := by
  refine callType_new F.called_enumerate (by decide) (F.typeCall_enumerate_1 _) (F.newCall_enumerate_1 _) (fun obj => F.args_object_init_2 obj _) F.entry_enumerate_new (meets_enm B) ⟨h1, ?_⟩
  have hz : (s.heap.push o).objs.size = s.heap.objs.size + 1 := Heap.size_push ..
  have he := Heap.get?_push_size (s.heap.push o) (o := enO s.heap.objs.size) rfl
  rw [hz] at he
  show _ ∧ _
  rw [hz]
  exact ⟨⟨_, he, rfl⟩, h _ he (Heap.get?_push_of_some _ (Heap.get?_push_size _ B.free)) fun b o x => Heap.get?_push_of_some _ (Heap.get?_push_of_some _ x)⟩
end
section
variable {X : Cx} {e e2 e3 : Expr} {ta : TA} {p pos tpos : Pos} {elts : List Expr} {kk : Nat}
def iEn (K : PySem.W.Frag) (ta : TA) : TI := fun σ H R => ta σ H fun vs H1 => ∃ k xs, vs = [Kd.v k] ∧ k.at_ K H1 xs ∧ R (Iten K k) H1
def iZ2 (K : PySem.W.Frag) (ta : TA) : TI := fun σ H R => ta σ H fun vs H1 => ∃ k1 k2 xs ys, vs = [Kd.v k1, Kd.v k2] ∧ k1.at_ K H1 xs ∧ k2.at_ K H1 ys ∧ R (Itz2 K k1 k2) H1
def iZ3 (K : PySem.W.Frag) (ta : TA) : TI := fun σ H R => ta σ H fun vs H1 => ∃ k1 k2 k3 xs ys zs, vs = [Kd.v k1, Kd.v k2, Kd.v k3] ∧ k1.at_ K H1 xs ∧ k2.at_ K H1 ys ∧ k3.at_ K H1 zs ∧ R (Itz3 K k1 k2 k3) H1
theorem far {N : Nat} {fp : List Addr} (h : ∀ b ∈ fp, b < N) {c : Nat} (hc : N ≤ c) : c ∉ fp := fun z => absurd (h c z) (Nat.not_lt.mpr hc)
theorem pi_en (hg : Gl X "enumerate") (hm : X.mg "enumerate" = none) (ha : PA X [e] ta) (hs : starEach [e] X.env = [(false, eval e X.env)]) : PI X (.Tuple elts kk tpos) (.Call (.Name "enumerate" p) [e] [] pos) (iEn X.K ta) := by
  constructor
  intro pins s σ H R I h
  refine Call_ (ld_blt I hg hm boot_enumerate (PyProof.Rows.callWith_type1 (thn (ha.run pos pins s σ H _ I h) ?_) hs rfl))
  rintro us s1 ⟨vs, H1, I1, r1, k, xs, rfl, q1, q⟩
  obtain ⟨u, rfl, ru⟩ := vals1 r1
  obtain ⟨⟨o, S, sh, B, st0, dr⟩, low⟩ := src_of I1 q1 ru
  refine enm_begins B sh fun h' he ho kp => wpAny_pyIter_enum he ?_
  have I2 : Inv X pins σ H1 { s1 with heap := h' } := I1.kept (t' := s1.toks) kp
  refine ⟨s1.heap.objs.size + 1, [s1.heap.objs.size + 1, s1.heap.objs.size], _, _, H1, rfl, I2, turn_enm ru (Nat.succ_ne_self _) (far low (by omega)) (far low (Nat.le_refl _)), ⟨⟨.none, he⟩, st0 h' _ ho⟩, fun b hb => ?_, q⟩
  have hle : s1.heap.objs.size ≤ b := by
    simp only [List.mem_cons, List.not_mem_nil, or_false] at hb
    rcases hb with z | z <;> (rw [z]; first | exact Nat.le_refl _ | exact Nat.le_add_right _ _)
  exact I1.fpOk hle (I1.hok.fresh hle)
theorem vals3 {a b c : V} {us : List Value} (h : Vals [a, b, c] us) : ∃ u1 u2 u3, us = [u1, u2, u3] ∧ RelV a u1 ∧ RelV b u2 ∧ RelV c u3 := by
  cases h with
  | cons h1 h =>
    cases h with
    | cons h2 h =>
      cases h with
      | cons h3 h => cases h; exact ⟨_, _, _, rfl, h1, h2, h3⟩
theorem valsTwo {a b : V} {us : List Value} (h : Vals [a, b] us) : ∃ u1 u2, us = [u1, u2] ∧ RelV a u1 ∧ RelV b u2 := by
  cases h with
  | cons h1 h =>
    cases h with
    | cons h2 h => cases h; exact ⟨_, _, rfl, h1, h2⟩
theorem pi_z2 (hg : Gl X "zip") (hm : X.mg "zip" = none) (ha : PA X [e, e2] ta) (hs : starEach [e, e2] X.env = (false, eval e X.env) :: starEach [e2] X.env) (hpl : (backTo pos (starEach [e2] X.env)).any (·.1) = false) :
    PI X (.Tuple elts kk tpos) (.Call (.Name "zip" p) [e, e2] [] pos) (iZ2 X.K ta) := by
  constructor
  intro pins s σ H R I h
  refine Call_ (ld_blt I hg hm PyProof.Rows.boot_zip (PyProof.Rows.callWith_type1 (thn (ha.run pos pins s σ H _ I h) ?_) hs hpl))
  rintro us s1 ⟨vs, H1, I1, r, k1, k2, xs, ys, rfl, q1, q2, q⟩
  obtain ⟨u1, u2, rfl, r1, r2⟩ := valsTwo r
  obtain ⟨⟨o1, S1, sh1, B1, st1, _⟩, low1⟩ := src_of I1 q1 r1
  obtain ⟨⟨o2, S2, sh2, B2, st2, _⟩, low2⟩ := src_of I1 q2 r2
  refine zip_begins2 B1 B2 sh1 sh2 fun h' hz hTI hTO h1 h2 _ kp => wpAny_pyIter_zip hz ?_
  have I2 : Inv X pins σ H1 { s1 with heap := h' } := I1.kept (t' := s1.toks) kp
  refine ⟨s1.heap.objs.size + 4, [s1.heap.objs.size + 4, s1.heap.objs.size + 2, s1.heap.objs.size + 3, s1.heap.objs.size, s1.heap.objs.size + 1], _, _, H1, rfl, I2, turn_z2 r1 r2 (zip_sep2 low1 low2) (far low1 (Nat.le_refl _)) (far low2 (by omega)), ⟨hz, hTI, ⟨_, _, hTO⟩, st1 h' _ h1, st2 h' _ h2⟩, fun b hb => ?_, q⟩
  have hle : s1.heap.objs.size ≤ b := by
    simp only [List.mem_cons, List.not_mem_nil, or_false] at hb
    rcases hb with z | z | z | z | z <;> (rw [z]; first | exact Nat.le_refl _ | exact Nat.le_add_right _ _)
  exact I1.fpOk hle (I1.hok.fresh hle)
theorem pi_z3 (hg : Gl X "zip") (hm : X.mg "zip" = none) (ha : PA X [e, e2, e3] ta) (hs : starEach [e, e2, e3] X.env = (false, eval e X.env) :: starEach [e2, e3] X.env) (hpl : (backTo pos (starEach [e2, e3] X.env)).any (·.1) = false) :
    PI X (.Tuple elts kk tpos) (.Call (.Name "zip" p) [e, e2, e3] [] pos) (iZ3 X.K ta) := by
  constructor
  intro pins s σ H R I h
  refine Call_ (ld_blt I hg hm PyProof.Rows.boot_zip (PyProof.Rows.callWith_type1 (thn (ha.run pos pins s σ H _ I h) ?_) hs hpl))
  rintro us s1 ⟨vs, H1, I1, r, k1, k2, k3, xs, ys, zs, rfl, q1, q2, q3, q⟩
  obtain ⟨u1, u2, u3, rfl, r1, r2, r3⟩ := vals3 r
  obtain ⟨⟨o1, S1, sh1, B1, st1, _⟩, low1⟩ := src_of I1 q1 r1
  obtain ⟨⟨o2, S2, sh2, B2, st2, _⟩, low2⟩ := src_of I1 q2 r2
  obtain ⟨⟨o3, S3, sh3, B3, st3, _⟩, low3⟩ := src_of I1 q3 r3
  refine zip_begins3 B1 B2 B3 sh1 sh2 sh3 fun h' hz hTI hTO h1 h2 h3 _ kp => wpAny_pyIter_zip hz ?_
  have I2 : Inv X pins σ H1 { s1 with heap := h' } := I1.kept (t' := s1.toks) kp
  refine ⟨s1.heap.objs.size + 5, [s1.heap.objs.size + 5, s1.heap.objs.size + 3, s1.heap.objs.size + 4, s1.heap.objs.size, s1.heap.objs.size + 1, s1.heap.objs.size + 2], _, _, H1, rfl, I2, turn_z3 r1 r2 r3 (zip_sep3 low1 low2 low3) (far low1 (Nat.le_refl _)) (far low2 (by omega)) (far low3 (by omega)), ⟨hz, hTI, ⟨_, _, _, hTO⟩, st1 h' _ h1, st2 h' _ h2, st3 h' _ h3⟩, fun b hb => ?_, q⟩
  have hle : s1.heap.objs.size ≤ b := by
    simp only [List.mem_cons, List.not_mem_nil, or_false] at hb
    rcases hb with z | z | z | z | z | z <;> (rw [z]; first | exact Nat.le_refl _ | exact Nat.le_add_right _ _)
  exact I1.fpOk hle (I1.hok.fresh hle)
end
end EK

set_option Elab.async false
set_option linter.all false
set_option maxRecDepth 100000
set_option maxHeartbeats 4000000
namespace EK
open PySem PySem.W L2 PySem.Spec PyProof.Rows
section
variable {prog : Program} {w : World} {A : Around} {E : Value → Shared → Prop} {s : Shared}
theorem adj_rev (n : Nat) : Builtin.Slice.sliceAdjust none none (-1) (n : Int) = ((n : Int) - 1, -1) := rfl
theorem plc_rev (n : Nat) : Builtin.Slice.slicePlaces ((n : Int) - 1) (-1) (-1) = n := by
  unfold Builtin.Slice.slicePlaces
  rw [if_neg (by decide)]
  by_cases h : n = 0
  · subst h; rfl
  · rw [if_pos (by omega)]
    have : ((n : Int) - 1 - -1 - 1) / (- -1) + 1 = (n : Int) := by
      have e : (- -1 : Int) = 1 := rfl
      rw [e, Int.ediv_one]; omega
    rw [this]; rfl
theorem applied_rev {sl : Addr} {n : Nat} {u : Tok} {Q : Int × Int × Nat → Shared → Prop} (hs : s.heap.IsSliceOf sl .none .none (.int (-1) u)) (h : Q ((n : Int) - 1, -1, n) s) : wpAny (model prog w) A (Builtin.Slice.sliceApplied (.ref sl) (pure (n : Int))) Q E s := by
  obtain ⟨os, hos, hcs, hds⟩ := hs
  unfold Builtin.Slice.sliceApplied Builtin.Slice.sliceFields
  apply wpAny_bind
  refine wpAny_bind (wpAny_field hos hds (x := .none) rfl (wpAny_bind (wpAny_field hos hds (x := .none) rfl (wpAny_bind (wpAny_field hos hds (x := .int (-1) u) rfl (wpAny_pure ?_))))))
  refine wpAny_bind (slicePart_int ?_)
  show wpAny _ _ (if ((-1 : Int) == 0) = true then _ else _) _ _ s
  rw [if_neg (by decide)]
  refine wpAny_bind (slicePart_none (wpAny_bind (slicePart_none (wpAny_bind (wpAny_pure ?_)))))
  show wpAny _ _ (match Builtin.Slice.sliceAdjust none none (-1) (n : Int) with | (lo, hi) => pure (lo, (-1 : Int), Builtin.Slice.slicePlaces lo hi (-1))) _ _ s
  rw [adj_rev]
  show wpAny _ _ (pure ((n : Int) - 1, (-1 : Int), Builtin.Slice.slicePlaces ((n : Int) - 1) (-1) (-1))) _ _ s
  rw [plc_rev]
  exact wpAny_pure h
theorem pick_rev (items : Array Value) : ((List.range items.size).filterMap fun (k : Nat) => items[(((items.size : Int) - 1) + (k : Int) * (-1)).toNat]?) = items.toList.reverse := by
  have e : (fun (k : Nat) => items[(((items.size : Int) - 1) + (k : Int) * (-1)).toNat]?) = (fun j => items[j]?) ∘ fun k => items.size - 1 - k := by
    funext k
    show items[(((items.size : Int) - 1) + (k : Int) * (-1)).toNat]? = items[items.size - 1 - k]?
    congr 1
    omega
  rw [e, ← List.filterMap_map, krv_range, List.filterMap_reverse, krv_all]
theorem item_rev {t sl : Addr} {items : Array Value} {u : Tok} {Q : Value → Shared → Prop} (ht : IsTup s.heap t items) (hs : s.heap.IsSliceOf sl .none .none (.int (-1) u)) (hz : items.size ≤ sizeLine)
    (h : Q (.ref s.heap.objs.size) { s with heap := s.heap.push { cls := .type "tuple", data := .seq items.toList.reverse.toArray } }) : wpAny (model prog w) A (getItem (.ref t) (.ref sl)) Q E s := by
  have ok : sizeOk (.seq items.toList.reverse.toArray) := by
    show items.toList.reverse.toArray.size ≤ sizeLine
    simpa using hz
  have hTs : s.TypeIs (.ref sl) "slice" := by
    obtain ⟨os, hos, hcs, _⟩ := hs
    exact ⟨os, hos, hcs⟩
  unfold getItem
  try with_reducible refine wpAny_holding ?_
  first | refine wpAny_bind (wpAny_pure ?_) | skip
  refine wpAny_bind (wpAny_sequenceKey ht.typeIs (by decide) ?_)
  apply wpAny_bind
  refine wpAny_callSpecial?_slot (name := Str.ofString "__getitem__") ht.typeIs PyProof.Rows.slot_tuple_getitem ?_
  refine wpAny_call_entry PyProof.Rows.slot_tuple_getitem ht.typeIs entry_tuple_getitem ?_ (args_tuple_getitem _ _)
  show wpAny _ _ (Builtin.Tuple.tupleItemsOf (.ref t) >>= _) _ _ s
  refine wpAny_bind (tupleItemsOf_ ht (wpAny_bind (wpAny_typeOf hTs ?_)))
  rw [if_pos (by decide)]
  refine wpAny_bind (applied_rev hs ?_)
  show wpAny _ _ (if ((items.size : Int) - 1 == 0 && (-1 : Int) == 1 && items.size == items.size) = true then _ else _) _ _ s
  rw [if_neg (by rw [show ((-1 : Int) == 1) = false from rfl, Bool.and_false, Bool.false_and]; exact Bool.false_ne_true), pick_rev]
  first
    | exact wpAny_bind (m := Builtin.Tuple.tupleExact _) (wpAny_newObj_type (wpAny_pure ⟨_, rfl, wpAny_pure h⟩) ok)
    | exact wpAny_bind (m := Builtin.Tuple.tupleExact _) (wpAny_newObj_type (wpAny_bind (wpAny_pure (wpAny_pure ⟨_, rfl, wpAny_pure h⟩))) ok)
    | exact wpAny_bind (wpAny_bind (m := Builtin.Tuple.tupleExact _) (wpAny_newObj_type (wpAny_pure (wpAny_pure ⟨_, rfl, wpAny_pure h⟩)) ok))
    | exact wpAny_bind (wpAny_bind (m := Builtin.Tuple.tupleExact _) (wpAny_newObj_type (wpAny_pure ⟨_, rfl, wpAny_pure h⟩) ok))
end
end EK

set_option Elab.async false
set_option linter.all false
set_option maxRecDepth 100000
set_option maxHeartbeats 4000000
/-! != of a text and an empty dict, in tuples -/
namespace EK
open PySem L2 PyProof.Rows PySem.Spec
theorem eqAt_empty {P : Program} {w : World} {A : Around} {s : Shared} {a b : Addr} (da : s.heap.DictOf (mixKind P w) a []) (db : s.heap.DictOf (mixKind P w) b []) (ha : (a == sysModules) = false) (hb : (b == sysModules) = false) (hu : A.units < cLine) : SeqAt.EqAt A s (.ref a) (.ref b) true := by
  have any : ∀ {a : Addr}, s.heap.DictOf (mixKind P w) a [] → ∀ (P' : Program) (w' : World), s.heap.DictOf (mixKind P' w') a [] := fun {a} d P' w' => by
    obtain ⟨o, es, ep, e1, e2, e3, e4, e5, e6⟩ := d
    have z : es = #[] := by
      have := e5.length
      simp at this
      exact this
    subst z
    exact ⟨o, #[], ep, e1, e2, e3, (fun e he => by simp at he), .nil, List.nodup_nil⟩
  by_cases h : a = b
  · subst h
    exact SeqAt.EqAt.same _
  · exact SeqAt.EqAt.of_refs h fun P' w' E Q hq => PySem.W.rcP_dicts ha hb (any da P' w') (any db P' w') hu (fun _ => .nil) E Q (by simpa using hq)
def eqE : D → D → Option Bool
  | .tup [.str s, .dic []], .tup [.str t, .dic []] => some (decide (s = t))
  | _, _ => none
def nedD (a b : D) : Option D := match cmpD .NotEq a b with
  | some z => some z
  | none => (eqE a b).map fun k => .bl (!k)
section
variable {X : Cx} {C : Ct} {H : Hp} {ρ : Rg}
theorem txtDic {pins : List (Addr × Obj)} {σ : L2.St} {s : Shared} (hK : X.K = C.K) (I : Inv X pins σ H s) {x : V} {u : Value} {t : List Nat} (h : VwR C H ρ x (.tup [.str t, .dic []])) (r : RelV x u) :
    ∃ (l a : Addr) (tk : Tok), u = .ref l ∧ s.heap.IsTuple l #[.str (mkS t) tk, .ref a] ∧ s.heap.DictOf (mixKind X.prog X.w) a [] ∧ (a == sysModules) = false := by
  obtain ⟨l, xs, rfl, hl, ra⟩ := h.tup
  cases r
  cases ra with
  | cons r1 r2 =>
    cases r2 with
    | cons r2 r3 =>
      cases r3
      cases r1
      cases r2 with
      | @dic a kvs es ha hn ek re =>
        have kz : kvs = [] := by
          cases kvs with
          | nil => rfl
          | cons _ _ => cases ek
        subst kz
        obtain ⟨its, rv, ht, _⟩ := I.tuple (by rw [hK]; exact hl.sq)
        obtain ⟨_, sy, vs, kv, dd⟩ := dk_of I.hok ha
        have vz : vs = [] := by
          cases vs with
          | nil => rfl
          | cons _ _ => have := kv.length; simp at this
        subst vz
        cases rv with
        | cons v1 v2 =>
          cases v2 with
          | cons v2 v3 =>
            cases v3
            obtain ⟨tk, e1⟩ := v1
            cases v2
            subst e1
            exact ⟨l, a, tk, rfl, ht, dd, sy⟩
theorem op_ned (hK : X.K = C.K) (hu : X.A.units + 65 < cLine) : OpR X (compareOp .NotEq) (rP2 C nedD) := by
  intro pins s σ H x y v u Q I rx ry h
  obtain ⟨ρ, S, d, e, z, st, hx, hy, hg, q⟩ := h
  unfold nedD at hg
  split at hg
  · rename_i z' hz
    cases hg
    exact op_cmpP hK hu .NotEq pins s σ H x y v u Q I rx ry ⟨ρ, S, d, e, _, st, hx, hy, hz, q⟩
  · obtain ⟨k, hk, rfl⟩ := Option.map_eq_some_iff.mp hg
    unfold eqE at hk
    split at hk
    · rename_i t1 t2 _
      cases hk
      obtain ⟨l1, a1, k1, rfl, p1, d1, y1⟩ := txtDic hK I hx rx
      obtain ⟨l2, a2, k2, rfl, p2, d2, y2⟩ := txtDic hK I hy ry
      refine SeqAt.RcNeAt.tuples (A := X.A) (e := fun j => if j = 0 then (mkS t1 == mkS t2) else true) p1 p2 (by omega) (fun j h1 h2 => ?_) X.prog X.w X.xe _ ?_
      · have h1 : j < 2 := h1
        match j, h1 with
        | 0, _ => exact SeqAt.EqAt.str_str (mkS t1) k1 (mkS t2) k2
        | 1, _ => exact eqAt_empty d1 d2 y1 y2 (by show X.A.units + 1 < cLine; omega)
      · refine ⟨.bl _, H, I, rfl, ?_⟩
        have e : (!((List.range (min 2 2)).all (fun j => if j = 0 then (mkS t1 == mkS t2) else true) && 2 == 2)) = !decide (t1 = t2) := by
          have : (mkS t1 == mkS t2) = decide (t1 = t2) := by
            by_cases h : t1 = t2
            · subst h; simp
            · rw [decide_eq_false h]
              exact beq_eq_false_iff_ne.mpr fun e => h (by simpa using congrArg (fun s : Str => s.cps.toList) e)
          rw [this]
          simp [List.range, List.range.loop]
        show Q (.bl (!((List.range (min 2 2)).all (fun j => if j = 0 then (mkS t1 == mkS t2) else true) && 2 == 2))) H
        rw [e]
        exact fin0 st q (.bl _)
    · cases hk
end
end EK

set_option Elab.async false
set_option linter.all false
set_option maxRecDepth 100000
set_option maxHeartbeats 4000000
/-! the table of a set: slots are found again, whatever the mask is, if only the way comes round to each slot -/
namespace EK.St
open PySem L2

def Cyc (m : Nat) : Prop := ∀ i j, i ≤ m → j ≤ m → ∃ k, k ≤ m ∧ lcgI m i k = j
/-- the way from x, n slots of it, as a list -/
def its (m : Nat) : Nat → Nat → List Nat
  | 0, _ => []
  | n + 1, x => x :: its m n ((x * 5 + 1) % (m + 1))
theorem lcgI_front (m x : Nat) : ∀ k, lcgI m x (k + 1) = lcgI m ((x * 5 + 1) % (m + 1)) k
  | 0 => rfl
  | k + 1 => by
    show (lcgI m x (k + 1) * 5 + 1) % (m + 1) = _
    rw [lcgI_front m x k]
    rfl
theorem its_mem (m : Nat) : ∀ (n x j : Nat), j ∈ its m n x → ∃ k, k < n ∧ lcgI m x k = j
  | 0, x, j, h => by cases h
  | n + 1, x, j, h => by
    rcases List.mem_cons.mp h with h | h
    · exact ⟨0, Nat.succ_pos _, h.symm⟩
    · obtain ⟨k, hk, e⟩ := its_mem m n _ j h
      exact ⟨k + 1, Nat.succ_lt_succ hk, by rw [lcgI_front]; exact e⟩
theorem lcgI_zero (m : Nat) : ∀ k, lcgI m 0 k = lcgN m k
  | 0 => rfl
  | k + 1 => by
    show (lcgI m 0 k * 5 + 1) % (m + 1) = (lcgN m k * 5 + 1) % (m + 1)
    rw [lcgI_zero m k]
/-- one round through 0 suffices -/
theorem cyc_by {m : Nat} (h1 : ((List.range (m + 1)).all fun j => (its m (m + 1) 0).contains j) = true) (h2 : lcgN m (m + 1) = 0) : Cyc m := by
  have at_ : ∀ j, j ≤ m → ∃ b, b ≤ m ∧ lcgN m b = j := fun j hj => by
    have := List.all_eq_true.mp h1 j (List.mem_range.mpr (Nat.lt_succ_of_le hj))
    obtain ⟨k, hk, e⟩ := its_mem m _ _ j (List.contains_iff_mem.mp this)
    exact ⟨k, Nat.le_of_lt_succ hk, by rw [← lcgI_zero]; exact e⟩
  have per : ∀ k, lcgN m (m + 1 + k) = lcgN m k := fun k => by
    induction k with
    | zero => exact h2
    | succ k ih =>
      show (lcgN m (m + 1 + k) * 5 + 1) % (m + 1) = _
      rw [ih]
      rfl
  intro i j hi hj
  obtain ⟨x, hx, ex⟩ := at_ i hi
  obtain ⟨y, hy, ey⟩ := at_ j hj
  subst ex ey
  by_cases c : x ≤ y
  · exact ⟨y - x, by omega, by rw [lcgN_add, Nat.add_sub_cancel' c]⟩
  · exact ⟨m + 1 + y - x, by omega, by rw [lcgN_add, show x + (m + 1 + y - x) = m + 1 + y by omega, per]⟩
theorem cyc_511 : Cyc 511 := cyc_by (by decide +kernel) (by decide +kernel)
/-- the masks of sets of at most 300 things -/
def Msk (m : Nat) : Prop := m = 7 ∨ m = 31 ∨ m = 127 ∨ m = 511
theorem Msk.cyc {m : Nat} : Msk m → Cyc m
  | .inl e => fun _ _ hi hj => lcgI_all (.inl e) hi hj
  | .inr (.inl e) => fun _ _ hi hj => lcgI_all (.inr (.inl e)) hi hj
  | .inr (.inr (.inl e)) => fun _ _ hi hj => lcgI_all (.inr (.inr e)) hi hj
  | .inr (.inr (.inr e)) => by rw [e]; exact cyc_511
theorem Msk.odd {m : Nat} (h : Msk m) : m % 2 = 1 := by rcases h with e | e | e | e <;> rw [e]
theorem run_comes {m : Nat} (c : Cyc m) (h : Int) {j : Nat} (hj : j ≤ m) : ∃ n, n ≤ m + 12 ∧ runI m (SetTable.bits h) n = j := by
  obtain ⟨k, k1, k2⟩ := c _ j (runI_le m (SetTable.bits h) 12) hj
  refine ⟨12 + k, by omega, ?_⟩
  rw [runI_tail (bits_lt h), k2]
theorem way_comes {m : Nat} (c : Cyc m) (h : Int) {j : Nat} (hj : j ≤ m) : ∃ k, k < 10 * SetTable.turns m ∧ way m h k = j := by
  obtain ⟨n, n1, n2⟩ := run_comes c h hj
  obtain ⟨k, k1, k2⟩ := run_nth m (SetTable.bits h) n
  exact ⟨k, by unfold SetTable.turns; omega, (congrArg SetTable.Probe.j k2).trans n2⟩
theorem way_in (m : Nat) (h : Int) (k : Nat) : way m h k ≤ m := by
  have b := runEnd_bd (m := m) (i := SetTable.bits h % (m + 1)) (Nat.le_of_lt_succ (Nat.mod_lt _ (Nat.succ_pos _)))
  have q : SetTable.bits h % (m + 1) + (SetTable.runEnd m (SetTable.bits h % (m + 1)) - SetTable.bits h % (m + 1)) ≤ m := by omega
  have := nth_in k (runAt m (SetTable.bits h % (m + 1)) (SetTable.bits h)) q
  exact Nat.le_trans (Nat.le_add_right _ _) this

/-- what stands in slot j was put there from hash h on its way, past taken slots only -/
def Rch (m : Nat) (ps : List Nat) (h : Int) (j : Nat) : Prop := ∃ k, way m h k = j ∧ ∀ k', k' < k → way m h k' ∈ ps
theorem Rch.up {m : Nat} {ps ps' : List Nat} {h : Int} {j : Nat} (u : ∀ x ∈ ps, x ∈ ps') (r : Rch m ps h j) : Rch m ps' h j :=
  let ⟨k, a, b⟩ := r; ⟨k, a, fun k' hk => u _ (b k' hk)⟩
structure TB (t : SetTable) (hs : List Int) : Prop where
  ris : Ris t.place.toList
  dm : t.dummies = #[]
  sz : t.place.toList.length = hs.length
  ms : Msk t.mask
  bd : ∀ x ∈ t.place.toList, x ≤ t.mask
  re : ∀ p ∈ hs.zip t.place.toList, Rch t.mask t.place.toList p.1 p.2
theorem zip_at {α β : Type} {xs : List α} {ys : List β} {i : Nat} {x : α} {y : β} (hx : xs[i]? = some x) (hy : ys[i]? = some y) : (x, y) ∈ xs.zip ys := by
  refine List.mem_of_getElem? (i := i) ?_
  rw [List.getElem?_zip_eq_some]
  exact ⟨hx, hy⟩
section
variable {t : SetTable} {hs : List Int}
/-- the way's first free slot -/
theorem TB.free (T : TB t hs) (hl : hs.length ≤ t.mask) (h : Int) : ∃ K, K < 10 * SetTable.turns t.mask ∧ way t.mask h K ∉ t.place.toList ∧ ∀ k, k < K → way t.mask h k ∈ t.place.toList := by
  obtain ⟨j, j1, j2⟩ := st_missing t.place.toList (t.mask + 1) (by rw [T.sz]; omega)
  obtain ⟨k, k1, k2⟩ := way_comes T.ms.cyc h (Nat.le_of_lt_succ j1)
  obtain ⟨K, c1, c2, c3⟩ := st_least (p := fun q => way t.mask h q ∉ t.place.toList) k (by rw [k2]; exact j2)
  exact ⟨K, Nat.lt_of_le_of_lt c1 k1, c2, fun q hq => Classical.not_not.mp (c3 q hq)⟩
/-- an entry of this hash stands ahead of it -/
theorem TB.ahead (T : TB t hs) {h : Int} {K i j : Nat} (hK : way t.mask h K ∉ t.place.toList) (hi : hs[i]? = some h) (hj : t.place.toList[i]? = some j) : ∃ k, k < K ∧ way t.mask h k = j := by
  obtain ⟨k, e, b⟩ := T.re _ (zip_at hi hj)
  refine ⟨k, Nat.lt_of_not_le fun c => hK ?_, e⟩
  by_cases q : K = k
  · rw [q, e]
    exact List.mem_of_getElem? hj
  · exact b K (Nat.lt_of_le_of_ne c q)
theorem zip_ins {α β : Type} : ∀ (p : Nat) (xs : List α) (ys : List β) (x : α) (y : β), xs.length = ys.length → ∀ q ∈ (xs.take p ++ x :: xs.drop p).zip (ys.take p ++ y :: ys.drop p), q = (x, y) ∨ q ∈ xs.zip ys
  | 0, xs, ys, x, y, _, q, h => by
    rcases List.mem_cons.mp h with h | h
    · exact .inl h
    · exact .inr h
  | p + 1, [], [], x, y, _, q, h => .inl (by simpa using h)
  | p + 1, a :: xs, b :: ys, x, y, hl, q, h => by
    rcases List.mem_cons.mp (show q ∈ (a, b) :: (xs.take p ++ x :: xs.drop p).zip (ys.take p ++ y :: ys.drop p) from h) with h | h
    · exact .inr (by rw [h]; exact List.mem_cons_self)
    · exact (zip_ins p xs ys x y (Nat.succ.inj hl) q h).imp id (List.mem_cons_of_mem _)
  | p + 1, [], b :: ys, x, y, hl, q, h => nomatch hl
  | p + 1, a :: xs, [], x, y, hl, q, h => nomatch hl
/-- a new hash is put into the free slot -/
theorem TB.put (T : TB t hs) {h : Int} {K : Nat} (hK : way t.mask h K ∉ t.place.toList) (hb : ∀ k, k < K → way t.mask h k ∈ t.place.toList) :
    ∃ p t1, t.put (way t.mask h K) = (t1, p) ∧ p ≤ hs.length ∧ TB t1 (hs.take p ++ h :: hs.drop p) ∧ t1.mask = t.mask ∧ t1.led = t.led ∧ t1.fill = hs.length + 1 := by
  have hin := way_in t.mask h K
  have cut := (below_cut T.ris (way t.mask h K)).1
  have cutL : SetTable.below t.place (way t.mask h K) ≤ t.place.toList.length := by rw [Array.length_toList]; exact cut
  have pl := put_place t (way t.mask h K)
  have dm := put_dm T.dm (way t.mask h K)
  have ris := ris_insert T.ris (j := way t.mask h K) fun e => hK (List.mem_of_getElem? (by rw [Array.getElem?_toList]; exact e))
  have len : (t.put (way t.mask h K)).1.place.toList.length = hs.length + 1 := by rw [pl, len_ins _ cutL, T.sz]
  have up : ∀ x ∈ t.place.toList, x ∈ (t.put (way t.mask h K)).1.place.toList := fun x hx => by rw [pl]; exact mem_ins.2 (.inr hx)
  refine ⟨(t.put (way t.mask h K)).2, (t.put (way t.mask h K)).1, rfl, by rw [← T.sz]; exact cutL, ?_, rfl, rfl, ?_⟩
  refine ⟨ris, dm, ?_, T.ms, fun x hx => ?_, fun q hq => ?_⟩
  · rw [len]
    refine Eq.symm (len_ins _ ?_ _)
    rw [← T.sz]
    exact cutL
  · have hx : x ∈ (t.put (way t.mask h K)).1.place.toList := hx
    rw [pl] at hx
    exact (mem_ins.1 hx).elim (fun e => e ▸ hin) (T.bd x)
  · have hq : q ∈ (hs.take (SetTable.below t.place (way t.mask h K)) ++ h :: hs.drop (SetTable.below t.place (way t.mask h K))).zip (t.put (way t.mask h K)).1.place.toList := hq
    rw [pl] at hq
    rcases zip_ins _ _ _ _ _ T.sz.symm q hq with e | e
    · rw [e]
      exact ⟨K, rfl, fun k hk => up _ (hb k hk)⟩
    · exact (T.re q e).up up
  · show (t.put (way t.mask h K)).1.place.size + (t.put (way t.mask h K)).1.dummies.size = _
    rw [dm, ← Array.length_toList, len]
    rfl
end

/-! ### laid anew -/
theorem own_free {m : Nat} (c : Cyc m) (owner : Array (Option Nat)) (h : Int) {j : Nat} (hj : j ≤ m) (hf : oAt owner j = none) :
    ∃ K, SetTable.layClean.free m owner (SetTable.turns m) (SetTable.bits h % (m + 1)) (SetTable.bits h) = some (way m h K) ∧ oAt owner (way m h K) = none ∧ ∀ k, k < K → oAt owner (way m h k) ≠ none := by
  obtain ⟨n, n1, n2⟩ := run_comes c h hj
  have w0 : way m h (off m (SetTable.bits h % (m + 1)) (SetTable.bits h) n) = j := by
    have e := nth_off m n (SetTable.bits h % (m + 1)) (SetTable.bits h)
    rw [itL_run] at e
    exact (congrArg SetTable.Probe.j e).trans n2
  obtain ⟨K, k1, k2, k3⟩ := st_least (p := fun k => oAt owner (way m h k) = none) _ (show oAt owner (way m h (off m (SetTable.bits h % (m + 1)) (SetTable.bits h) n)) = none by rw [w0]; exact hf)
  refine ⟨K, free_spec m owner _ n _ _ K (by unfold SetTable.turns; omega) k1 (fun k hk => ?_) (Option.isNone_iff_eq_none.mpr k2), k2, k3⟩
  exact Option.isNone_eq_false_iff.mpr (Option.isSome_iff_ne_none.mpr (k3 k hk))
theorem own_step {m : Nat} (c : Cyc m) {done : List Int} {owner : Array (Option Nat)} (W : Own m done owner) (hl : done.length ≤ m) (h : Int) :
    ∃ j, SetTable.layClean.free m owner (SetTable.turns m) (SetTable.bits h % (m + 1)) (SetTable.bits h) = some j ∧ Own m (done ++ [h]) (owner.setIfInBounds j (some done.length)) := by
  obtain ⟨ps, p1, p2⟩ := W.ps
  obtain ⟨x, x1, x2⟩ := st_missing ps (m + 1) (by omega)
  obtain ⟨K, e1, e2, e3⟩ := own_free c owner h (Nat.le_of_lt_succ x1) (Classical.byContradiction fun z => x2 (p2 x (Nat.le_of_lt_succ x1) z))
  have hz : way m h K < owner.size := by rw [W.sz]; exact Nat.lt_succ_of_le (way_in m h K)
  have me := oAt_set_self (some done.length) hz
  have oth : ∀ {i : Nat}, i ≠ way m h K → oAt (owner.setIfInBounds (way m h K) (some done.length)) i = oAt owner i := fun hi => oAt_set_ne _ hi
  have taken : ∀ {i : Nat}, oAt owner i ≠ none → oAt (owner.setIfInBounds (way m h K) (some done.length)) i ≠ none := fun {i} hi => by
    have ne : i ≠ way m h K := fun z => hi (by rw [z]; exact e2)
    rw [oth ne]
    exact hi
  refine ⟨_, e1, ⟨(Array.size_setIfInBounds ..).trans W.sz, fun j k hj e => ?_, fun k hk => ?_, ⟨ps ++ [way m h K], by simp [p1], fun j hj e => ?_⟩⟩⟩
  · by_cases q : j = way m h K
    · subst q
      rw [me] at e
      cases e
      exact ⟨h, K, List.getElem?_concat_length .., rfl, fun k' hk' => taken (e3 k' hk')⟩
    · rw [oth q] at e
      obtain ⟨h', K', a1, a2, a3⟩ := W.at_ j k hj e
      exact ⟨h', K', by rw [List.getElem?_append_left (List.getElem?_eq_some_iff.mp a1).1]; exact a1, a2, fun k' hk' => taken (a3 k' hk')⟩
  · by_cases q : k = done.length
    · subst q
      exact ⟨_, way_in m h K, me⟩
    · obtain ⟨j, j1, j2⟩ := W.all k (by rw [List.length_append, List.length_singleton] at hk; omega)
      exact ⟨j, j1, by rw [oth fun z => by rw [z, e2] at j2; cases j2]; exact j2⟩
  · by_cases q : j = way m h K
    · exact List.mem_append_right _ (by rw [q]; exact List.mem_cons_self)
    · exact List.mem_append_left _ (p2 j hj (by rw [oth q] at e; exact e))
theorem own_all {m : Nat} (c : Cyc m) : ∀ (rest done : List Int) (owner : Array (Option Nat)), Own m done owner → done.length + rest.length ≤ m →
    ∃ ow n, rest.foldl (stepF m) (some (owner, done.length)) = some (ow, n) ∧ Own m (done ++ rest) ow := by
  intro rest
  induction rest with
  | nil => exact fun done owner W _ => ⟨owner, _, rfl, by rw [List.append_nil]; exact W⟩
  | cons h rest ih =>
    intro done owner W hl
    rw [List.length_cons] at hl
    obtain ⟨j, e, W1⟩ := own_step c W (by omega) h
    obtain ⟨ow, n, f, W2⟩ := ih _ _ W1 (by rw [List.length_append, List.length_singleton]; omega)
    refine ⟨ow, n, ?_, by rw [List.append_assoc] at W2; exact W2⟩
    rw [List.foldl_cons, stepF_some e]
    rw [List.length_append] at f
    exact f
theorem clean_ok {m : Nat} (c : Cyc m) {hs : Array Int} (hn : hs.size ≤ m) : ∃ ow, SetTable.layClean m hs = some ow ∧ Own m hs.toList ow := by
  obtain ⟨ow, n, f, W⟩ := own_all c hs.toList [] _ (Own.init m) (by rw [Array.length_toList]; simpa using hn)
  refine ⟨ow, ?_, W⟩
  rw [layClean_eq]
  exact congrArg (Option.map Prod.fst) f
theorem laid_ok (t : SetTable) {hs : Array Int} {wanted M : Nat} (hw : SetTable.sizeAbove wanted - 1 = M) (hM : Msk M) (hn : hs.size ≤ M) :
    ∃ t1 order, t.relaid hs wanted = some (t1, order) ∧ order.toList.Perm (List.range hs.size) ∧ TB t1 (order.toList.map fun i => hs.getD i 0) ∧ t1.mask = M ∧ t1.led = t.led := by
  obtain ⟨ow, e, W⟩ := clean_ok hM.cyc hn
  obtain ⟨r1, r2⟩ := ris_live (fun j => ow.getD j none) (List.range (M + 1)) List.pairwise_lt_range
  have r1 : Ris ((liveOf M ow).map (·.1)) := r1
  have r2 : ∀ x ∈ (liveOf M ow).map (·.1), x ∈ List.range (M + 1) := r2
  have isLive : ∀ {j k : Nat}, (j, k) ∈ liveOf M ow ↔ j ≤ M ∧ oAt ow j = some k := mem_live W.sz
  have all2 : ∀ k, k < hs.size → k ∈ (liveOf M ow).map (·.2) := fun k hk => by
    obtain ⟨j, q⟩ := W.all k (by rw [Array.length_toList]; exact hk)
    exact List.mem_map_of_mem (f := Prod.snd) (isLive.2 q)
  have len : (liveOf M ow).length = hs.size := by
    obtain ⟨ps, p1, p2⟩ := W.ps
    have up := nat_nodup_len ((liveOf M ow).map (·.1)) ps (show ((liveOf M ow).map (·.1)).Nodup from List.Pairwise.imp (fun h => Nat.ne_of_lt h) r1) fun x hx => by
      obtain ⟨⟨y, k⟩, q1, rfl⟩ := List.mem_map.mp hx
      obtain ⟨q2, q3⟩ := isLive.1 q1
      exact p2 _ q2 (by rw [q3]; exact Option.some_ne_none _)
    have lo := nat_nodup_len (List.range hs.size) ((liveOf M ow).map (·.2)) List.nodup_range fun k hk => all2 k (List.mem_range.mp hk)
    rw [List.length_map] at up lo
    rw [List.length_range] at lo
    rw [p1] at up
    have z : hs.toList.length = hs.size := Array.length_toList ..
    omega
  refine ⟨tabOf t M ow, ((liveOf M ow).map (·.2)).toArray, ?_, ?_, ⟨r1, rfl, ?_, hM, fun x hx => Nat.le_of_lt_succ (List.mem_range.mp (r2 x hx)), fun q hq => ?_⟩, rfl, rfl⟩
  · rw [relaid_eq, hw, e]
    rfl
  · exact perm_range _ _ ((List.length_map ..).trans len) all2
  · show ((liveOf M ow).map (·.1)).length = (((liveOf M ow).map (·.2)).map _).length
    simp only [List.length_map]
  · have hq : q ∈ ((liveOf M ow).map fun x => (hs.getD x.2 0, x.1)) := by
      have e : (((liveOf M ow).map (·.2)).map fun i => hs.getD i 0).zip ((liveOf M ow).map (·.1)) = (liveOf M ow).map fun x => (hs.getD x.2 0, x.1) := by
        rw [List.map_map]
        induction liveOf M ow with
        | nil => rfl
        | cons a l ih => rw [List.map_cons, List.map_cons, List.map_cons, List.zip_cons_cons, ih]; rfl
      rw [← e]
      exact hq
    obtain ⟨⟨y, k⟩, q1, rfl⟩ := List.mem_map.mp hq
    obtain ⟨q2, q3⟩ := isLive.1 q1
    obtain ⟨h0, K, a1, a2, a3⟩ := W.at_ y k q2 q3
    have e0 : hs.getD k 0 = h0 := by
      rw [Array.getElem?_toList] at a1
      rw [Array.getD_eq_getD_getElem?, a1]
      rfl
    refine ⟨K, by rw [e0]; exact a2, fun k' hk' => ?_⟩
    rw [e0]
    obtain ⟨z, ez⟩ := Option.ne_none_iff_exists'.mp (a3 k' hk')
    exact List.mem_map_of_mem (f := Prod.fst) (isLive.2 ⟨way_in M h0 k', ez⟩)
end EK.St

set_option Elab.async false
set_option linter.all false
set_option maxRecDepth 100000
set_option maxHeartbeats 4000000
/-! sets of tuples of texts -/
namespace EK.St
open PySem PySem.Spec PyProof.Rows L2

abbrev hsh (P : Program) (w : World) (k : List Str) : Int := tupleKeyHash (strKind P w) k
abbrev IsP (P : Program) (w : World) (h : Heap) (k : List Str) (a : Addr) : Prop := IsTupleKey (strKind P w) h k a
section
variable {P : Program} {w : World} {A : Around} {E : Value → Shared → Prop} {s : Shared}

theorem txts {k : List Str} {vs : List Value} (h : ItemsAre (strKind P w) k vs) : ∀ v ∈ vs, ∃ x t, v = Value.str x t := by
  induction h with
  | nil => exact fun v hv => nomatch hv
  | cons h1 _ ih =>
    intro v hv
    rcases List.mem_cons.mp hv with e | hv
    · obtain ⟨t, q⟩ := Value.isStrOf_shape h1
      exact ⟨_, t, by rw [e]; exact q⟩
    · exact ih v hv
theorem cls_str (n : Nat) (x : Str) (t : Tok) : ofAClassStatement n (.str x t) = pure false := by cases n <;> rfl
theorem val_str (n : Nat) (x : Str) (t : Tok) : hashByValue n (.str x t) = pure false := by cases n <;> rfl
theorem noCls {k : List Str} {b : Addr} {Q : Bool → Shared → Prop} (hk : IsP P w s.heap k b) (h : Q false s) : wpAny (model P w) A (ofAClassStatement 8 (.ref b)) Q E s := by
  have ty := hk.typeIs
  obtain ⟨ob, its, nn, g1, _, g2, g3⟩ := hk
  have tx := txts g3
  unfold ofAClassStatement
  refine wpAny_bind (wpAny_typeOf ty ?_)
  dsimp only
  have et : (("tuple" : String) == "tuple") = true := by decide
  rw [if_pos et]
  simp only [Bool.not_true, Bool.false_eq_true, if_false, pure_bind]
  refine wpAny_bind (wpAny_seqItems g1 g2 ?_)
  dsimp only
  refine wpAny_bind ?_
  show wpAny _ _ (forIn its _ _) _ _ s
  rw [← Array.forIn_toList]
  refine wpAny_forIn_list _ (fun l r z => (r.1 = none ∧ z = s) ∧ ∀ v ∈ l, ∃ x t, v = Value.str x t) _ ?_ ?_ _ _ ⟨⟨rfl, rfl⟩, tx⟩
  · rintro v l r z ⟨⟨_, rfl⟩, all⟩
    obtain ⟨x, t, e⟩ := all v List.mem_cons_self
    subst e
    rw [cls_str]
    exact wpAny_bind (wpAny_pure (wpAny_pure ⟨⟨rfl, rfl⟩, fun u hu => all u (List.mem_cons_of_mem _ hu)⟩))
  · rintro ⟨r1, r2⟩ z ⟨⟨e, rfl⟩, _⟩
    cases e
    exact wpAny_pure h
/-- by value or not: both will do -/
theorem anyVal {k : List Str} {b : Addr} {Q : Bool → Shared → Prop} (hk : IsP P w s.heap k b) (h : ∀ c, Q c s) : wpAny (model P w) A (hashByValue 8 (.ref b)) Q E s := by
  have ty := hk.typeIs
  obtain ⟨ob, its, nn, g1, _, g2, g3⟩ := hk
  have tx := txts g3
  unfold hashByValue
  refine wpAny_bind (wpAny_specialOf ty F.slot_tuple_hash.lookup ?_)
  show wpAny _ _ (seqItems? (.ref b) >>= _) _ _ s
  refine wpAny_bind (wpAny_seqItems g1 g2 ?_)
  refine wpAny_bind ?_
  show wpAny _ _ (forIn its _ _) _ _ s
  rw [← Array.forIn_toList]
  refine wpAny_forIn_list _ (fun l r z => (r.1 = none ∧ z = s) ∧ ∀ v ∈ l, ∃ x t, v = Value.str x t) _ ?_ ?_ _ _ ⟨⟨rfl, rfl⟩, tx⟩
  · rintro v l r z ⟨⟨_, rfl⟩, all⟩
    obtain ⟨x, t, e⟩ := all v List.mem_cons_self
    subst e
    rw [val_str]
    refine wpAny_bind (wpAny_pure ?_)
    simp only [Bool.not_false, if_true]
    exact wpAny_pure (wpAny_pure (h false))
  · rintro ⟨r1, r2⟩ z ⟨⟨e, rfl⟩, _⟩
    cases e
    exact wpAny_pure (h true)
/-- nobody sees a search among tuples of texts -/
theorem unseen {k : List Str} {b : Addr} {Q : Bool → Shared → Prop} (hk : IsP P w s.heap k b) {ys : List Value} (hy : ∀ y ∈ ys, ∃ k' c, y = Value.ref c ∧ IsP P w s.heap k' c) (h : Q false s) :
    wpAny (model P w) A (searchCouldBeSeen (.ref b) ys) Q E s := by
  unfold searchCouldBeSeen
  refine wpAny_bind ?_
  refine wpAny_forIn_list _ (fun l r z => (r.1 = none ∧ z = s) ∧ ∀ y ∈ l, ∃ k' c, y = Value.ref c ∧ IsP P w s.heap k' c) _ ?_ ?_ _ _ ⟨⟨rfl, rfl⟩, hy⟩
  · rintro v l r z ⟨⟨_, rfl⟩, all⟩
    obtain ⟨k2, c, e, hc⟩ := all v List.mem_cons_self
    subst e
    have more := fun u hu => all u (List.mem_cons_of_mem _ hu)
    dsimp only
    by_cases same : (b == c || (carriedByValue (.ref b) && carriedByValue (.ref c))) = true
    · exact wp_if_pos same (wpAny_pure ⟨⟨rfl, rfl⟩, more⟩)
    · refine wp_if_neg same (wpAny_bind (wpAny_eqIsQuiet_tuple hk ?_))
      refine wp_if_neg (by decide) (wpAny_bind (wpAny_eqIsQuiet_tuple hc ?_))
      refine wp_if_neg (by decide) (wpAny_bind (noCls hk ?_))
      refine wp_if_neg (by decide) (wpAny_bind (noCls hc ?_))
      exact wp_if_neg (by decide) (wpAny_pure ⟨⟨rfl, rfl⟩, more⟩)
  · rintro ⟨r1, r2⟩ z ⟨⟨e, rfl⟩, _⟩
    cases e
    exact wpAny_pure h

/-! ### the set -/
abbrev Mem : Type := Addr × List Str
def rws (P : Program) (w : World) (L : List Mem) : List (Int × Value) := L.map fun p => (hsh P w p.2, Value.ref p.1)
/-- the set's own object holds the rows L -/
structure SO (P : Program) (w : World) (h : Heap) (a : Addr) (L : List Mem) (es : Array (Int × Value)) (ep : Nat) (t : SetTable) : Prop where
  ob : ∃ o, h.get? a = some o ∧ o.ExactSet ∧ o.data = .set es ep t
  rows : es.toList = rws P w L
  tab : TB t (L.map fun p => hsh P w p.2)
  nd : (L.map (·.2)).Nodup
  led : w.params.followText "set-order" = true ∨ t.led = true
  room : L.length * 5 < t.mask * 3
/-- and its members stand in the heap -/
structure SR (P : Program) (w : World) (h : Heap) (a : Addr) (L : List Mem) (es : Array (Int × Value)) (ep : Nat) (t : SetTable) : Prop extends SO P w h a L es ep t where
  mem : ∀ p ∈ L, IsP P w h p.2 p.1
variable {a : Addr} {L : List Mem} {es : Array (Int × Value)} {ep : Nat} {t : SetTable}
theorem rws_size (h : es.toList = rws P w L) : es.size = L.length := by
  rw [← Array.length_toList, h]
  exact List.length_map ..
theorem rws_at (h : es.toList = rws P w L) {i : Nat} {p : Mem} (e : L[i]? = some p) : es[i]? = some (hsh P w p.2, Value.ref p.1) := by
  rw [← Array.getElem?_toList, h]
  unfold rws
  rw [List.getElem?_map, e]
  rfl
theorem fits_of (T : TB t (L.map fun p => hsh P w p.2)) (h : es.toList = rws P w L) (hl : L.length ≤ t.mask) : t.fits es.size = true := by
  have z := T.sz
  rw [List.length_map, Array.length_toList] at z
  unfold SetTable.fits SetTable.fill
  rw [T.dm, Bool.and_eq_true, beq_iff_eq, decide_eq_true_eq, rws_size h, z]
  exact ⟨rfl, hl⟩
theorem SO.fits (R : SO P w s.heap a L es ep t) : t.fits es.size = true := fits_of R.tab R.rows (by have := R.room; omega)
theorem SO.gw (R : SO P w s.heap a L es ep t) : ¬ t.gaveWay = true := by
  unfold SetTable.gaveWay
  rw [R.tab.ms.odd]
  decide
theorem nodummy (m : Nat) : ∀ (n : Nat) (p : SetTable.Probe), p.dummy = none → (nth m p n).dummy = none
  | 0, _, h => h
  | n + 1, p, h => nodummy m n (adv m p) (by unfold adv; split <;> exact h)

/-- the search that adding makes, from its c-th step on: n steps at most are left -/
theorem seek (R : SR P w s.heap a L es ep t) {x : Addr} {k : List Str} (hx : IsP P w s.heap k x) (hu : A.units < cLine) {K : Nat} (kf : K < 10 * SetTable.turns t.mask)
    (k0 : way t.mask (hsh P w k) K ∉ t.place.toList) (kb : ∀ c, c < K → way t.mask (hsh P w k) c ∈ t.place.toList) {Q : SetFound → Shared → Prop}
    (yes : k ∈ L.map (·.2) → Q (.there none) s) (no : k ∉ L.map (·.2) → Q (.free (way t.mask (hsh P w k) K) false) s) :
    ∀ (n f c : Nat) (st : Option SetTable.Probe), K - c ≤ n → n < f → c ≤ K → st.getD (t.probeStart (hsh P w k)) = nth t.mask (t.probeStart (hsh P w k)) c →
      (∀ (i : Nat) p, L[i]? = some p → p.2 = k → ∃ c', c ≤ c' ∧ c' < K ∧ t.place.toList[i]? = some (way t.mask (hsh P w k) c')) →
      wpAny (model P w) A (setSearchFrom a (.ref x) (hsh P w k) true f st) Q E s := by
  obtain ⟨o, ho, _, hd⟩ := R.ob
  generalize hh : hsh P w k = h at k0 kb no ⊢
  have hashes : ∀ (i : Nat) p, L[i]? = some p → (es[i]?.map (·.1)).getD 0 = hsh P w p.2 := fun i p e => by rw [rws_at R.rows e]; rfl
  have wy : ∀ c q, (nth t.mask (nth t.mask (t.probeStart h) c) q).j = way t.mask h (c + q) := fun c q => congrArg SetTable.Probe.j (nth_add t.mask c _ q).symm
  intro n
  induction n with
  | zero =>
    intro f c st h1 h2 h3 h4 h5
    cases f with
    | zero => exact absurd h2 (Nat.not_lt_zero _)
    | succ f =>
      have ec : c = K := by omega
      subst ec
      rw [setSearchFrom_succ]
      refine wpAny_bind (wpAny_setState_of ho hd R.fits (wp_if_neg R.gw ?_))
      rcases go_spec t R.tab.ris R.tab.dm (fun i => (es[i]?.map (·.1)).getD 0) h (10 * SetTable.turns t.mask) 0 (nth t.mask (t.probeStart h) c) (nodummy _ _ _ rfl) (Nat.lt_of_le_of_lt (Nat.zero_le _) kf) (fun q hq => nomatch hq) (by rw [wy]; exact k0) with ⟨q, _, hq, _⟩ | ⟨_, g⟩
      · exact nomatch hq
      · rw [h4, show t.probe (fun i => (es[i]?.map (·.1)).getD 0) h (nth t.mask (t.probeStart h) c) = _ from g]
        dsimp only
        rw [wy]
        refine wpAny_pure (no fun m => ?_)
        obtain ⟨p, p1, p2⟩ := List.mem_map.mp m
        obtain ⟨i, p3⟩ := List.mem_iff_getElem?.mp p1
        obtain ⟨c', a1, a2, _⟩ := h5 i p p3 p2
        omega
  | succ n ih =>
    intro f c st h1 h2 h3 h4 h5
    cases f with
    | zero => exact absurd h2 (Nat.not_lt_zero _)
    | succ f =>
      rw [setSearchFrom_succ]
      refine wpAny_bind (wpAny_setState_of ho hd R.fits (wp_if_neg R.gw ?_))
      have g := go_spec t R.tab.ris R.tab.dm (fun i => (es[i]?.map (·.1)).getD 0) h (10 * SetTable.turns t.mask) (K - c) (nth t.mask (t.probeStart h) c) (nodummy _ _ _ rfl) (by omega)
        (fun q hq => by rw [wy]; exact kb _ (by omega)) (by rw [wy, Nat.add_sub_cancel' h3]; exact k0)
      simp only [wy, ← nth_add, Nat.add_sub_cancel' h3] at g
      rw [h4]
      rcases g with ⟨q, i, q1, q2, q3, q4, q5⟩ | ⟨q4, q5⟩
      · rw [show t.probe (fun i => (es[i]?.map (·.1)).getD 0) h (nth t.mask (t.probeStart h) c) = _ from q5]
        dsimp only
        have il : i < L.length := by
          have z := R.tab.sz
          rw [List.length_map] at z
          have := (List.getElem?_eq_some_iff.mp q2).1
          omega
        obtain ⟨p, hp⟩ : ∃ p, L[i]? = some p := ⟨_, List.getElem?_eq_getElem il⟩
        have pin := List.mem_of_getElem? hp
        have tail : wpAny (model P w) A (searchRest a (.ref x) h true f es t (way t.mask h (c + q)) i (nth t.mask (t.probeStart h) (c + (q + 1)))) Q E s := by
          unfold searchRest
          rw [rws_at R.rows hp]
          dsimp only
          refine wpAny_bind (wpAny_holding (wpAny_eqBool_tuple hu (R.mem p pin) hx ?_))
          refine wpAny_bind (wpAny_setState_of ho hd R.fits ?_)
          dsimp only
          by_cases ek : p.2 = k
          · exact wp_if_pos (by simp [ek]) (wpAny_pure (yes (List.mem_map.mpr ⟨p, pin, ek⟩)))
          · refine wp_if_neg (by simp [ek]) ?_
            rw [sameMem]
            dsimp only
            have sl : t.slot (way t.mask h (c + q)) = .live i := slot_live R.tab.ris q2
            simp only [if_true, sl, rws_at R.rows hp]
            refine wpAny_bind (wpAny_isSame_ref_self (wpAny_bind (wpAny_pure ?_)))
            simp only [if_true]
            refine wp_if_neg (by simp [ek]) ?_
            refine ih f (c + (q + 1)) _ (by omega) (by omega) (by omega) rfl fun i0 p0 e1 e2 => ?_
            obtain ⟨c', a1, a2, a3⟩ := h5 i0 p0 e1 e2
            have e3 : (es[i0]?.map (·.1)).getD 0 = h := by rw [hashes i0 p0 e1, e2, hh]
            refine ⟨c', ?_, a2, a3⟩
            by_cases l1 : c' < c + q
            · exact absurd e3 (q4 (c' - c) i0 (by omega) (by rw [Nat.add_sub_cancel' a1]; exact a3))
            · by_cases l2 : c' = c + q
              · exfalso
                rw [l2] at a3
                have s0 := slot_live R.tab.ris a3
                rw [sl] at s0
                injection s0 with s0
                rw [← s0, hp] at e1
                cases e1
                exact ek e2
              · omega
        by_cases ld : t.led = true
        · exact wp_if_neg (by simp [ld]) tail
        · refine wp_if_pos (by simp [ld]) (wpAny_bind (unseen hx (fun y hy => ?_) (wp_if_neg (by decide) tail)))
          obtain ⟨e, he, ee⟩ := List.mem_map.mp hy
          have he : e ∈ es.toList := by
            have z : e ∈ es ∧ e.1 = h := by simpa using he
            simpa using z.1
          rw [R.rows] at he
          obtain ⟨p2, m2, e2⟩ := List.mem_map.mp he
          exact ⟨p2.2, p2.1, by rw [← ee, ← e2], R.mem p2 m2⟩
      · rw [show t.probe (fun i => (es[i]?.map (·.1)).getD 0) h (nth t.mask (t.probeStart h) c) = _ from q5]
        dsimp only
        refine wpAny_pure (no fun m => ?_)
        obtain ⟨p, p1, p2⟩ := List.mem_map.mp m
        obtain ⟨i, p3⟩ := List.mem_iff_getElem?.mp p1
        obtain ⟨c', a1, a2, a3⟩ := h5 i p p3 p2
        exact q4 (c' - c) i (by omega) (by rw [Nat.add_sub_cancel' a1]; exact a3) (by rw [hashes i p p3, p2, hh])
theorem seek0 (R : SR P w s.heap a L es ep t) {x : Addr} {k : List Str} (hx : IsP P w s.heap k x) (hu : A.units < cLine) {Q : SetFound → Shared → Prop}
    (yes : k ∈ L.map (·.2) → Q (.there none) s)
    (no : ∀ K, k ∉ L.map (·.2) → way t.mask (hsh P w k) K ∉ t.place.toList → (∀ c, c < K → way t.mask (hsh P w k) c ∈ t.place.toList) → Q (.free (way t.mask (hsh P w k) K) false) s) :
    wpAny (model P w) A (setSearch a (.ref x) (hsh P w k) true) Q E s := by
  have room := R.room
  obtain ⟨K, kf, k0, kb⟩ := R.tab.free (by rw [List.length_map]; omega) (hsh P w k)
  have small : K < 100000 := by
    have : 10 * SetTable.turns t.mask ≤ 10000 := by
      unfold SetTable.turns
      rcases R.tab.ms with e | e | e | e <;> omega
    omega
  unfold setSearch
  refine seek R hx hu kf k0 kb yes (fun n => no K n k0 kb) K 100000 0 none (Nat.le_refl _) small (Nat.zero_le _) rfl fun i p e1 e2 => ?_
  have hi : (L.map fun p => hsh P w p.2)[i]? = some (hsh P w k) := by rw [List.getElem?_map, e1, ← e2]; rfl
  have il : i < t.place.toList.length := by
    rw [R.tab.sz]
    exact (List.getElem?_eq_some_iff.mp hi).1
  obtain ⟨c, c1, c2⟩ := R.tab.ahead k0 hi (List.getElem?_eq_getElem il)
  exact ⟨c, Nat.zero_le _, c1, by rw [List.getElem?_eq_getElem il, c2]⟩
end
end EK.St

set_option Elab.async false
set_option linter.all false
set_option maxRecDepth 100000
set_option maxHeartbeats 4000000
/-! sets of tuples of texts: adding, set(xs), sorted(set(xs)) -/
namespace EK.St
open PySem PySem.Spec PyProof.Rows L2
section
variable {P : Program} {w : World} {A : Around} {E : Value → Shared → Prop} {s : Shared}
variable {a : Addr} {L : List Mem} {es : Array (Int × Value)} {ep : Nat} {t : SetTable}
theorem isP_but {h h' : Heap} {k : List Str} {a b : Addr} {o : Obj} (hb : IsP P w h k b) (ho : h.get? a = some o) (hd : o.data = .set es ep t) (sb : Heap.SameBut a h h') : IsP P w h' k b := by
  obtain ⟨o2, its, n, e1, e2, e3, e4⟩ := hb
  refine ⟨o2, its, n, (sb.2 b fun z => ?_).trans e1, e2, e3, e4⟩
  rw [z, ho] at e1
  cases e1
  rw [hd] at e3
  cases e3
theorem isP_more {h h' : Heap} {k : List Str} {b : Addr} (x : IsP P w h k b) (kp : ∀ c o, h.get? c = some o → h'.get? c = some o) : IsP P w h' k b := by
  obtain ⟨o2, its, n, e1, r⟩ := x
  exact ⟨o2, its, n, kp _ _ e1, r⟩
/-- the rows in a new order -/
theorem rows_order (L : List Mem) (es : Array (Int × Value)) (od : List Nat) (hr : es.toList = rws P w L) (hp : od.Perm (List.range L.length)) :
    ∃ L2 : List Mem, od.filterMap (fun i => es[i]?) = rws P w L2 ∧ L2.Perm L ∧ (L2.map fun p => hsh P w p.2) = od.map fun i => (es.map (·.1)).getD i 0 := by
  have lt : ∀ i ∈ od, i < L.length := fun i hi => List.mem_range.mp (hp.mem_iff.mp hi)
  refine ⟨od.map fun i => L.getD i (0, []), ?_, ?_, ?_⟩
  · clear hp
    induction od with
    | nil => rfl
    | cons i od ih =>
      have hi := lt i List.mem_cons_self
      rw [List.filterMap_cons_some (rws_at hr (List.getElem?_eq_getElem hi)), ih fun j hj => lt j (List.mem_cons_of_mem _ hj)]
      show _ = (hsh P w (L.getD i (0, [])).2, Value.ref (L.getD i (0, [])).1) :: _
      rw [List.getD_eq_getElem?_getD, List.getElem?_eq_getElem hi]
      rfl
  · have e : (List.range L.length).map (fun i => L.getD i (0, [])) = L := by
      apply List.ext_getElem (by simp)
      intro i h1 h2
      rw [List.getElem_map, List.getElem_range, List.getD_eq_getElem?_getD, List.getElem?_eq_getElem h2]
      rfl
    exact (hp.map _).trans (by rw [e])
  · rw [List.map_map]
    refine List.map_congr_left fun i hi => ?_
    have hl := lt i hi
    have e1 := rws_at hr (List.getElem?_eq_getElem hl)
    show hsh P w (L.getD i (0, [])).2 = _
    rw [List.getD_eq_getElem?_getD, List.getElem?_eq_getElem hl, Array.getD_eq_getD_getElem?, Array.getElem?_map, e1]
    rfl
theorem grown_of {m n : Nat} (hm : Msk m) (h1 : n * 5 ≥ m * 3) (h2 : (n - 1) * 5 < m * 3) (h3 : n ≤ 300) (h4 : 1 ≤ n) :
    ∃ M, SetTable.sizeAbove (SetTable.grown n) - 1 = M ∧ Msk M ∧ SetTable.sizeAbove (SetTable.grown n) ≤ 512 ∧ n * 5 < M * 3 := by
  rcases hm with e | e | e | e
  · have : n = 5 := by omega
    subst this
    exact ⟨31, by decide +kernel, .inr (.inl rfl), by decide +kernel, by decide⟩
  · have : n = 19 := by omega
    subst this
    exact ⟨127, by decide +kernel, .inr (.inr (.inl rfl)), by decide +kernel, by decide⟩
  · have : n = 77 := by omega
    subst this
    exact ⟨511, by decide +kernel, .inr (.inr (.inr rfl)), by decide +kernel, by decide⟩
  · exfalso
    omega
/-- the table grows -/
theorem relay {o : Obj} {n : Nat} (ho : s.heap.get? a = some o) (hex : o.ExactSet) (hd : o.data = .set es ep t) (hr : es.toList = rws P w L) (T : TB t (L.map fun p => hsh P w p.2)) (hn : L.length = n)
    (nd : (L.map (·.2)).Nodup) (mem : ∀ p ∈ L, IsP P w s.heap p.2 p.1) (ld : w.params.followText "set-order" = true ∨ t.led = true) (h1 : n * 5 ≥ t.mask * 3) (h2 : (n - 1) * 5 < t.mask * 3) (h3 : n ≤ 300) (h4 : 1 ≤ n) {Q : Unit → Shared → Prop}
    (hQ : ∀ h' L' es' ep' t', Heap.SameBut a s.heap h' → SR P w h' a L' es' ep' t' → L'.Perm L → Q () { s with heap := h' }) : wpAny (model P w) A (setRelay a (SetTable.grown n)) Q E s := by
  obtain ⟨M, g1, g2, g3, g4⟩ := grown_of T.ms h1 h2 h3 h4
  have hz := rws_size hr
  have hfit : t.fits es.size = true := fits_of T hr (by rcases T.ms with e | e | e | e <;> omega)
  obtain ⟨t1, od, e, pm, T1, m1, l1⟩ := laid_ok t (hs := es.map (·.1)) g1 g2 (by rw [Array.size_map, hz]; omega)
  rw [Array.size_map, hz] at pm
  obtain ⟨L2, q1, q2, q3⟩ := rows_order L es od.toList hr pm
  rw [← q3] at T1
  have q1' : (od.filterMap fun i => es[i]?).toList = rws P w L2 := by simpa using q1
  have z2 : (od.filterMap fun i => es[i]?).size = es.size := by rw [rws_size q1', q2.length_eq, hz]
  rw [setRelay_eq]
  refine wpAny_bind (wpAny_setState_of ho hd hfit ?_)
  dsimp only
  refine wp_if_neg (by rw [sizeLine_eq]; omega) ?_
  rw [e]
  dsimp only
  refine wpAny_bind (wp_if_neg (by rw [z2]; simp) (wpAny_pure ?_))
  dsimp only
  have sb := Heap.SameBut.update s.heap a (Obj.putSet (od.filterMap fun i => es[i]?) t1)
  refine wpAny_storeSet_of ho hd (hQ _ L2 _ (ep + 1) t1 sb ⟨⟨⟨_, store_at ho hd, ⟨hex.1, hex.2.1, hex.2.2⟩, rfl⟩, q1', T1, ?_, by rw [l1]; exact ld, by rw [q2.length_eq, m1, hn]; exact g4⟩, fun p hp => isP_but (mem p (q2.mem_iff.mp hp)) ho hd sb⟩ q2) (by rw [z2, hz, sizeLine_eq]; omega)
  exact (q2.map (·.2)).nodup_iff.mpr nd
theorem ins_perm {α : Type} (L : List α) (p : Nat) (x : α) : (L.take p ++ x :: L.drop p).Perm (x :: L) := by
  have := List.perm_middle (a := x) (l₁ := L.take p) (l₂ := L.drop p)
  rwa [List.take_append_drop] at this
def putTail (a : Addr) (es1 : Array (Int × Value)) (t2 : SetTable) (n : Nat) : Sem Bool := do
  storeSet a es1 t2
  if !false && t2.tooFull then setRelay a (SetTable.grown n)
  return true
/-- one more is put in, if it isn't there -/
theorem add1 (R : SR P w s.heap a L es ep t) {x : Addr} {k : List Str} (hx : IsP P w s.heap k x) (hu : A.units < cLine) (hf : L.length < 300) {Q : Bool → Shared → Prop}
    (hQ : ∀ b h' L' es' ep' t', Heap.SameBut a s.heap h' → SR P w h' a L' es' ep' t' → (L'.map (·.2)).Perm (if k ∈ L.map (·.2) then L.map (·.2) else k :: L.map (·.2)) → (∀ p ∈ L', p = (x, k) ∨ p ∈ L) → Q b { s with heap := h' }) :
    wpAny (model P w) A (setAddHashed a (.ref x) (hsh P w k)) Q E s := by
  obtain ⟨o, ho, hex, hd⟩ := R.ob
  have hz := rws_size R.rows
  have room := R.room
  unfold setAddHashed
  refine wpAny_holding ?_
  rw [show (100000 : Nat) = 99999 + 1 from rfl, setAddHashedIn_succ]
  refine wpAny_bind (wpAny_setState_of ho hd R.fits (wp_if_neg (by simp [byScan, Value.scannable]) ?_))
  refine wpAny_bind (seek0 R hx hu (fun m => ?_) fun K nm k0 kb => ?_)
  · exact wpAny_pure (hQ false s.heap L es ep t (Heap.SameBut.refl a s.heap) R (by rw [if_pos m]) fun p hp => .inr hp)
  · dsimp only
    refine wpAny_bind (wpAny_setState_of ho hd R.fits ?_)
    dsimp only
    obtain ⟨p, t1, e1, pl, T1, m1, l1, f1⟩ := R.tab.put k0 kb
    rw [e1]
    dsimp only
    rw [List.length_map] at pl f1
    have rows1 : (SetTable.insertAt es p (hsh P w k, Value.ref x)).toList = rws P w (L.take p ++ (x, k) :: L.drop p) := by
      rw [SetTable.toList_insertAt, R.rows]
      unfold rws
      rw [List.map_append, List.map_cons, List.map_take, List.map_drop]
    have tab1 : TB t1 ((L.take p ++ (x, k) :: L.drop p).map fun p => hsh P w p.2) := by
      rw [List.map_append, List.map_cons, List.map_take, List.map_drop]
      exact T1
    have pm := ins_perm L p (x, k)
    have nd1 : ((L.take p ++ (x, k) :: L.drop p).map (·.2)).Nodup := (pm.map (·.2)).nodup_iff.mpr (List.nodup_cons.mpr ⟨nm, R.nd⟩)
    generalize L.take p ++ (x, k) :: L.drop p = L1 at rows1 tab1 pm nd1
    have len1 : L1.length = L.length + 1 := pm.length_eq
    have sz1 := rws_size rows1
    generalize SetTable.insertAt es p (hsh P w k, Value.ref x) = es1 at rows1 sz1 ⊢
    have keys : (L1.map (·.2)).Perm (if k ∈ L.map (·.2) then L.map (·.2) else k :: L.map (·.2)) := by
      rw [if_neg nm]
      exact pm.map (·.2)
    have from_ : ∀ q ∈ L1, q = (x, k) ∨ q ∈ L := fun q hq => List.mem_cons.mp (pm.mem_iff.mp hq)
    -- whatever is noted of values
    have body : ∀ t2 : SetTable, TB t2 (L1.map fun p => hsh P w p.2) → t2.mask = t.mask → t2.led = t.led → t2.fill = L.length + 1 →
        wpAny (model P w) A (putTail a es1 t2 (es.size + 1)) Q E s := fun t2 T2 m2 l2 f2 => by
      unfold putTail
      have sb := Heap.SameBut.update s.heap a (Obj.putSet es1 t2)
      have ho1 := store_at (es' := es1) (t' := t2) ho hd
      have mem1 : ∀ q ∈ L1, IsP P w (s.heap.update a (Obj.putSet es1 t2)) q.2 q.1 := fun q hq => by
        rcases from_ q hq with e | hq
        · rw [e]; exact isP_but hx ho hd sb
        · exact isP_but (R.mem q hq) ho hd sb
      have ld2 : w.params.followText "set-order" = true ∨ t2.led = true := by rw [l2]; exact R.led
      refine wpAny_bind (wpAny_storeSet_of ho hd ?_ (by rw [sz1, len1, sizeLine_eq]; omega))
      generalize s.heap.update a (Obj.putSet es1 t2) = h1 at sb ho1 mem1 ⊢
      by_cases full : t2.tooFull = true
      · have big : (L.length + 1) * 5 ≥ t2.mask * 3 := by
          unfold SetTable.tooFull at full
          rw [decide_eq_true_eq, f2] at full
          exact full
        refine wp_if_pos (by simp [full]) (wpAny_bind ?_)
        rw [hz]
        refine relay (s := { s with heap := h1 }) ho1 ⟨hex.1, hex.2.1, hex.2.2⟩ rfl rows1 T2 len1 nd1 mem1 ld2 big (by rw [m2]; simpa using room) (by omega) (by omega) fun h2 L2 es2 ep2 t3 sb2 R2 pm2 => ?_
        exact wpAny_pure (hQ true h2 L2 es2 ep2 t3 (sb.trans sb2) R2 ((pm2.map (·.2)).trans keys) fun q hq => from_ q (pm2.mem_iff.mp hq))
      · refine wp_if_neg (by simp [full]) ?_
        refine wpAny_pure (hQ true h1 L1 es1 (ep + 1) t2 sb ⟨⟨⟨_, ho1, ⟨hex.1, hex.2.1, hex.2.2⟩, rfl⟩, rows1, T2, nd1, ld2, ?_⟩, mem1⟩ keys from_)
        unfold SetTable.tooFull at full
        rw [decide_eq_true_eq, f2] at full
        rw [len1]
        omega
    have both : ∀ c : Bool, wpAny (model P w) A (putTail a es1 (if c then t1 else { t1 with plain := false }) (es.size + 1)) Q E s := fun c => by
      cases c
      · exact body { t1 with plain := false } ⟨tab1.ris, tab1.dm, tab1.sz, tab1.ms, tab1.bd, tab1.re⟩ m1 l1 f1
      · exact body t1 tab1 m1 l1 f1
    by_cases pn : t1.plain = true
    · exact wp_if_pos pn (wpAny_bind (anyVal hx fun c => both c))
    · exact wp_if_neg pn (wpAny_bind (wpAny_pure (both true)))
end
end EK.St

set_option Elab.async false
set_option linter.all false
set_option maxRecDepth 100000
set_option maxHeartbeats 4000000
/-! set(xs) and sorted(set(xs)) of tuples of texts, in the model -/
namespace EK.St
open PySem PySem.Spec PyProof.Rows L2
/-- the set holds the keys of the first i items, by these items -/
structure Has (ks : List Mem) (i : Nat) (L : List Mem) : Prop where
  sub : ∀ p ∈ L, p ∈ ks.take i
  all : ∀ p ∈ ks.take i, p.2 ∈ L.map (·.2)
  len : L.length ≤ i
theorem Has.next {ks L L' : List Mem} {i : Nat} {x : Mem} (g : Has ks i L) (h : ks[i]? = some x) (pm : (L'.map (·.2)).Perm (if x.2 ∈ L.map (·.2) then L.map (·.2) else x.2 :: L.map (·.2))) (fr : ∀ p ∈ L', p = x ∨ p ∈ L) : Has ks (i + 1) L' := by
  have e : ks.take (i + 1) = ks.take i ++ [x] := by rw [List.take_succ, h]; rfl
  have mm : ∀ k, k ∈ L'.map (·.2) ↔ k = x.2 ∨ k ∈ L.map (·.2) := fun k => by
    rw [pm.mem_iff]
    split
    · rename_i q
      exact ⟨.inr, fun z => z.elim (fun z => z ▸ q) id⟩
    · exact List.mem_cons
  refine ⟨fun p hp => ?_, fun p hp => ?_, ?_⟩
  · rw [e, List.mem_append, List.mem_singleton]
    exact (fr p hp).symm.imp (g.sub p) id
  · rw [e, List.mem_append, List.mem_singleton] at hp
    exact (mm _).2 (hp.symm.imp (fun z => by rw [z]) (g.all p))
  · have := pm.length_eq
    have := g.len
    split at pm
    · have := pm.length_eq
      simp only [List.length_map] at this
      omega
    · have := pm.length_eq
      simp only [List.length_map, List.length_cons] at this
      omega
section
variable {P : Program} {w : World} {A : Around} {E : Value → Shared → Prop} {s : Shared}
theorem SR.more {h h' : Heap} {a : Addr} {L : List Mem} {es : Array (Int × Value)} {ep : Nat} {t : SetTable} (R : SR P w h a L es ep t) (ha : ∀ o, h.get? a = some o → h'.get? a = some o) (hm : ∀ p ∈ L, IsP P w h' p.2 p.1) : SR P w h' a L es ep t := by
  obtain ⟨o, ho, r⟩ := R.ob
  exact ⟨⟨⟨o, ha o ho, r⟩, R.rows, R.tab, R.nd, R.led, R.room⟩, hm⟩
abbrev newSet (w : World) : Obj := { cls := .type "set", dict := none, data := .set #[] 0 (.fresh 0 0 (!w.params.followText "set-order")) }
theorem fresh_set {h : Heap} {a : Addr} (ho : h.get? a = some (newSet w)) : SR P w h a [] #[] 0 (.fresh 0 0 (!w.params.followText "set-order")) := by
  refine ⟨⟨⟨_, ho, ⟨rfl, rfl, rfl⟩, rfl⟩, rfl, ⟨List.Pairwise.nil, rfl, rfl, .inl rfl, (fun x hx => (nomatch hx)), (fun q hq => (nomatch hq))⟩, List.nodup_nil, ?_, by show 0 * 5 < 7 * 3; decide⟩, (fun p hp => (nomatch hp))⟩
  show _ ∨ (!w.params.followText "set-order") = true
  cases w.params.followText "set-order" <;> simp
/-- the loop of set(xs) over an iterator of the list -/
theorem set_loop {R : Result → Shared → Prop} {I : Addr} {fp wr : List Addr} {G : Array GenState → Array GenState → Prop} {Pv : Nat → Value → Prop} {St : Nat → Shared → Prop} {S : Addr} {ks : List Mem}
    (W : WalksS P w A.in1 I fp wr G ks.length Pv St) (nf : S ∉ fp) (few : ks.length ≤ 300) (hv : ∀ i v, Pv i v → ∃ p, ks[i]? = some p ∧ v = .ref p.1)
    {h0 : Heap} (hk : ∀ p ∈ ks, IsP P w h0 p.2 p.1) (n0 : h0.get? S = none) (w0 : ∀ b ∈ wr, h0.get? b = none) (hu : A.in1.units < cLine) :
    ∀ (m i : Nat) (s : Shared), i + m = ks.length → St i s → (∀ b o, h0.get? b = some o → s.heap.get? b = some o) → (∃ L es ep t, SR P w s.heap S L es ep t ∧ Has ks i L) →
      (∀ s' L es ep t, Moved (S :: wr) G s s' → SR P w s'.heap S L es ep t → Has ks ks.length L → (∀ b o, h0.get? b = some o → s'.heap.get? b = some o) → R (.ok (.ret .none)) s') →
      codeAny (model P w) A (.builtin "set.update.loop" ⟨[.ref S, .ref I], []⟩) R s := by
  have wS : S ∉ wr := fun z => nf (W.sub _ z)
  have up : ∀ b ∈ wr, b ∈ S :: wr := fun b hb => .tail _ hb
  have kp : ∀ {s s' : Shared}, Moved wr G s s' → (∀ b o, h0.get? b = some o → s.heap.get? b = some o) → ∀ b o, h0.get? b = some o → s'.heap.get? b = some o := fun mv q b o e =>
    mv.heap b o (fun z => by rw [w0 b z] at e; cases e) (q b o e)
  have there : ∀ {i : Nat} {L : List Mem}, Has ks i L → ∀ p ∈ L, p ∈ ks := fun g p hp => List.mem_of_mem_take (g.sub p hp)
  intro m
  induction m with
  | zero =>
    rintro i s hi st q ⟨L, es, ep, t, R1, g⟩ fin
    have e : i = ks.length := hi
    subst e
    refine codeAny_builtin PyProof.Rows.F.entry_set_update_loop ?_
    rw [Around.under_plainId PyProof.Rows.F.plain_set_update_loop _]
    show wpAny _ A.in1 (pyNext (.ref I) >>= _) _ _ s
    refine wpAny_bind (W.done s _ _ st fun s1 mv => ?_)
    have q1 := kp mv q
    exact wpAny_pure (fin s1 L es ep t (mv.mono up) (R1.more (fun o e => mv.heap S o wS e) fun p hp => isP_more (hk p (there g p hp)) q1) g q1)
  | succ m ih =>
    rintro i s hi st q ⟨L, es, ep, t, R1, g⟩ fin
    refine codeAny_builtin PyProof.Rows.F.entry_set_update_loop ?_
    rw [Around.under_plainId PyProof.Rows.F.plain_set_update_loop _]
    show wpAny _ A.in1 (pyNext (.ref I) >>= _) _ _ s
    refine wpAny_bind (W.item i s _ _ (by omega) st fun v s1 hp st1 mv => ?_)
    obtain ⟨p, e1, e2⟩ := hv i v hp
    subst e2
    have q1 := kp mv q
    have R2 : SR P w s1.heap S L es ep t := R1.more (fun o e => mv.heap S o wS e) fun y hy => isP_more (hk y (there g y hy)) q1
    have hx : IsP P w s1.heap p.2 p.1 := isP_more (hk p (List.mem_of_getElem? e1)) q1
    show wpAny _ A.in1 (holding [Value.ref p.1] (setAdd S (.ref p.1)) >>= _) _ _ s1
    refine wpAny_bind (wpAny_holding ?_)
    unfold setAdd
    refine wpAny_holding (wpAny_bind (wpAny_pyHash_tuple hu hx ?_))
    refine add1 (s := { s1 with toks := s1.toks + (p.2.length + 1) }) R2 hx hu (by have := g.len; omega) fun b h2 L2 es2 ep2 t2 sb R3 pm fr => ?_
    have q2 : ∀ b o, h0.get? b = some o → h2.get? b = some o := fun b o e => (sb.2 b (fun z => by rw [z, n0] at e; cases e)).trans (q1 b o e)
    refine wpAny_pure ⟨plainId_quiet PyProof.Rows.F.plain_set_update_loop _, ih (i + 1) _ (by omega) (W.frame _ s1 _ _ st1 (Nat.le_add_right _ _) fun b hb o e => ?_) q2 ⟨L2, es2, ep2, t2, R3, g.next e1 pm fr⟩ fun s3 L3 es3 ep3 t3 mv3 R4 g4 q4 => ?_⟩
    · exact (sb.2 b fun z => nf (z ▸ hb)).trans e
    · refine fin s3 L3 es3 ep3 t3 (Moved.trans W.gtrans ((mv.mono up).then_heap (Nat.le_add_right _ _) fun b o hb e => ?_) mv3) R4 g4 q4
      exact (sb.2 b fun z => hb (z ▸ List.mem_cons_self)).trans e
set_option maxRecDepth 100000 in
set_option maxHeartbeats 3200000 in
/-- set(xs), xs a list of tuples of texts -/
theorem call_set {l : Addr} {items : Array Value} (ks : List Mem) {Q : Value → Shared → Prop} (hh : A.handled = none) (hl : s.heap.IsList l items) (hit : items.toList = ks.map fun p => Value.ref p.1)
    (hk : ∀ p ∈ ks, IsP P w s.heap p.2 p.1) (few : ks.length ≤ 300) (hu : A.units + 3 < cLine)
    (h : ∀ (h' : Heap) (tk : Nat) L es ep t, SR P w h' s.heap.objs.size L es ep t → Has ks ks.length L → (∀ b o, s.heap.get? b = some o → h'.get? b = some o) → Q (.ref s.heap.objs.size) { s with heap := h', toks := tk }) :
    wpAny (model P w) A (call (.type "set") [.ref l]) Q E s := by
  have zi : items.size = ks.length := by
    rw [← Array.length_toList, hit]
    exact List.length_map ..
  obtain ⟨mc, mt, hmr⟩ := PySem.F.called_set.mro
  have hmd := PySem.F.called_set.made
  have hsb := PySem.F.called_set.sub
  refine wpAny_call (codeAny_of_tree ?_)
  show wpAny _ _ (callAny (.type "set") _) _ _ _
  refine wpAny_pure ⟨Code.quiet_builtin _ (by decide +kernel), codeAny_builtin PySem.F.entry_type_call ?_⟩
  rw [Around.under_plain (weight_type_call_type "set" [.ref l] []) rfl]
  have ht1 := PySem.F.called_set.notType
  have ht2 := PySem.F.called_set.canCreate
  have ht3 := PySem.F.typeCall_set_1 (.ref l)
  repeat (any_goals (first | assumption | wp_step))
  refine codeAny_mono (code_set_led1 (.ref l) (E := E) (Q₁ := fun ob z => ob = .ref s.heap.objs.size ∧ z = { s with heap := s.heap.push (newSet w) }) ⟨rfl, rfl⟩) fun r z hr => ?_
  cases r with
  | error e => exact hr
  | ok fl =>
    cases fl with
    | ret ob =>
      obtain ⟨rfl, rfl⟩ := hr
      have gS : (s.heap.push (newSet w)).get? s.heap.objs.size = some (newSet w) := Heap.get?_push_size _ rfl
      have tyS : Shared.TypeIs { s with heap := s.heap.push (newSet w) } (.ref s.heap.objs.size) "set" := ⟨_, gS, rfl⟩
      have hq1 := PySem.F.called_set.init.lookup
      have hq2 := PySem.F.called_set.init.bind (.ref s.heap.objs.size)
      repeat (any_goals (first | assumption | wp_step))
      refine codeAny_mono (codeAny_call_builtin (R := wants (fun r z => r = .none ∧ ∃ h' tk L es ep t, z = { s with heap := h', toks := tk } ∧ SR P w h' s.heap.objs.size L es ep t ∧ Has ks ks.length L ∧
          (∀ b o, s.heap.get? b = some o → h'.get? b = some o)) E) PySem.F.called_set.init.plain PySem.F.entry_set_init (check_set_init_1 tyS ?_)) fun r₂ s₂ hr₂ => ?_
      · obtain ⟨ol, q1, q2, nl, q3⟩ := hl
        obtain ⟨ocl, odi, oda, osl⟩ := ol
        simp only at q2 q3
        subst q2; subst q3
        have q1' : (s.heap.push (newSet w)).get? l = some { cls := .type "list", dict := odi, data := .seq items nl, slots := osl } := Heap.get?_push_of_some _ q1
        have hls := PySem.F.sub_list_set
        have hlf := PySem.F.sub_list_frozenset
        have hnd : (Value.type "list" == Value.type "dict") = false := by decide
        have isl : (s.heap.push (newSet w)).IsList l items := ⟨_, q1', rfl, nl, rfl⟩
        unfold Builtin.«set.__init__» noKeywords Builtin.Frozenset.updateFrom
        generalize hPI : pyIter = PI
        wp_walk
        subst hPI
        refine wpAny_pyIter_list isl (wpAny_bind (wpAny_runValue ?_))
        have lS : l < s.heap.objs.size := Heap.lt_size q1
        have sz1 : (s.heap.push (newSet w)).objs.size = s.heap.objs.size + 1 := Heap.size_push ..
        have nI : l ≠ (s.heap.push (newSet w)).objs.size := by
          rw [sz1]
          exact Nat.ne_of_lt (Nat.lt_succ_of_lt lS)
        have nf : s.heap.objs.size ∉ [(s.heap.push (newSet w)).objs.size, l] := by
          rw [sz1]
          simp only [List.mem_cons, List.not_mem_nil, or_false, not_or]
          exact ⟨Nat.ne_of_lt (Nat.lt_succ_self _), Nat.ne_of_gt lS⟩
        have nob : ∀ b, s.heap.objs.size ≤ b → s.heap.get? b = none := fun b hb => by
          cases q : s.heap.get? b with
          | none => rfl
          | some o =>
            exact absurd (Heap.lt_size q) (Nat.not_lt.mpr hb)
        have WL := (Walks.list (prog := P) (w := w) (A := A.in1.in1.in1) (by simp [hh]) (s.heap.push (newSet w)).objs.size l nI items).toS
        rw [zi] at WL
        refine set_loop (ks := ks) WL nf few (fun i v hv => ?_) (h0 := s.heap) hk (nob _ (Nat.le_refl _)) (fun b hb => nob b (by rw [List.mem_singleton.mp hb, sz1]; exact Nat.le_succ _)) hu ks.length 0 _ (Nat.zero_add _)
          ⟨⟨_, Heap.get?_push_size _ rfl, rfl, rfl⟩, isl.push _⟩ (fun b o e => Heap.get?_push_of_some _ (Heap.get?_push_of_some _ e)) ⟨[], #[], 0, _, fresh_set (Heap.get?_push_of_some _ gS), ⟨(fun p hp => (nomatch hp)), (fun p hp => (nomatch hp)), Nat.le_refl _⟩⟩ ?_
        · have q : items.toList[i]? = some v := by rw [Array.getElem?_toList]; exact hv
          rw [hit, List.getElem?_map] at q
          obtain ⟨p, e1, e2⟩ := Option.map_eq_some_iff.mp q
          exact ⟨p, e1, e2.symm⟩
        · intro s1 L es ep t mv R1 g q
          obtain ⟨h1, g1, d1, tk1, os1⟩ := s1
          obtain rfl : g1 = s.gens := mv.gens
          obtain rfl : d1 = s.drawn := mv.drawn
          obtain rfl : os1 = s.os := mv.os
          exact wpAny_pure (wpAny_pure ⟨rfl, h1, tk1, L, es, ep, t, rfl, R1, g, q⟩)
      · cases r₂ with
        | error e => exact hr₂
        | ok fl₂ =>
          cases fl₂ with
          | ret r =>
            obtain ⟨rfl, h', tk, L, es, ep, t, rfl, R1, g, q⟩ := hr₂
            repeat (any_goals (first | assumption | wp_step))
            exact h _ _ _ _ _ _ R1 g q
          | _ => exact hr₂.elim
    | _ => exact hr.elim
end
end EK.St

set_option Elab.async false
set_option linter.all false
set_option maxRecDepth 100000
set_option maxHeartbeats 4000000
/-! sorted(xs), sorted(set(xs)) of pairs of texts -/
namespace EK
open PySem PySem.Spec PyProof.Rows L2
/-! ### the order -/
abbrev Pr : Type := List Nat × List Nat
def leP (a b : Pr) : Bool := decide (a.1 < b.1 ∨ (a.1 = b.1 ∧ a.2 ≤ b.2))
def encP (p : Pr) : PyData := .tuple [.str (mkS p.1), .str (mkS p.2)]
theorem leP_enc : PySem.W.dataLe false encP = leP := by
  funext p q
  show (!PySem.W.dataLt (encP q) (encP p)) = leP p q
  unfold encP leP
  rw [PySem.W.dataLt_pair (by simp [PySem.W.alike]) (by simp [PySem.W.alike]), PySem.W.dataLt_str, PySem.W.dataLt_str]
  have eq : ∀ x y : List Nat, PyData.eqv (.str (mkS x)) (.str (mkS y)) = decide (x = y) := fun x y => by
    show (mkS x == mkS y) = _
    by_cases h : x = y
    · subst h; simp
    · rw [decide_eq_false h]
      exact beq_eq_false_iff_ne.mpr fun e => h (by simpa using congrArg (fun s : Str => s.cps.toList) e)
  rw [eq, eq]
  obtain ⟨p1, p2⟩ := p
  obtain ⟨q1, q2⟩ := q
  simp only
  by_cases h1 : q1 = p1
  · subst h1
    have n : ¬ q1 < q1 := List.lt_irrefl _
    by_cases h2 : q2 = p2
    · subst h2
      simp [List.le_refl]
    · simp only [h2, decide_true, decide_false, if_true, Bool.false_eq_true, if_false, n, false_or, true_and]
      exact PySem.W.not_lt_str p2 q2
  · have h1' : ¬ p1 = q1 := fun z => h1 z.symm
    simp only [h1, h1', decide_false, Bool.false_eq_true, if_false, false_and, or_false]
    rw [PySem.W.not_lt_str]
    refine Bool.eq_iff_iff.mpr ?_
    rw [decide_eq_true_iff, decide_eq_true_iff]
    constructor
    · intro h
      refine Decidable.byContradiction fun z => h1' ?_
      exact List.le_antisymm h (List.not_lt.mp z)
    · exact fun h => List.le_of_lt h
theorem leP_total : PySem.W.TotalLe leP := by
  rw [← leP_enc]
  exact PySem.W.sortLe_total _ _ _
theorem leP_anti {a b : Pr} (h1 : leP a b = true) (h2 : leP b a = true) : a = b := by
  unfold leP at h1 h2
  rw [decide_eq_true_iff] at h1 h2
  obtain ⟨a1, a2⟩ := a
  obtain ⟨b1, b2⟩ := b
  simp only at h1 h2
  rcases h1 with h1 | ⟨h1, h3⟩
  · rcases h2 with h2 | ⟨h2, h4⟩
    · exact absurd (List.lt_trans h1 h2) (List.lt_irrefl _)
    · subst h2; exact absurd h1 (List.lt_irrefl _)
  · subst h1
    rcases h2 with h2 | ⟨h2, h4⟩
    · exact absurd h2 (List.lt_irrefl _)
    · rw [List.le_antisymm h3 h4]
/-- sorted -/
def sortP (ps : List Pr) : List Pr := ps.mergeSort leP
theorem sortP_perm (ps : List Pr) : (sortP ps).Perm ps := List.mergeSort_perm ps leP
theorem sortP_le (ps : List Pr) : (sortP ps).Pairwise (fun a b => leP a b = true) := PySem.W.sort_pairwise leP_total ps
theorem sortP_uniq : ∀ {xs ys : List Pr}, xs.Perm ys → xs.Pairwise (fun a b => leP a b = true) → ys.Pairwise (fun a b => leP a b = true) → xs = ys
  | [], ys, p, _, _ => (List.nil_perm.mp p).symm
  | x :: xs, [], p, _, _ => by have := p.length_eq; cases this
  | x :: xs, y :: ys, p, hx, hy => by
    have e : x = y := by
      rcases List.mem_cons.mp (p.mem_iff.mp List.mem_cons_self) with e | m
      · exact e
      · rcases List.mem_cons.mp (p.mem_iff.mpr List.mem_cons_self) with e | m'
        · exact e.symm
        · exact leP_anti ((List.pairwise_cons.mp hx).1 y m') ((List.pairwise_cons.mp hy).1 x m)
    subst e
    rw [sortP_uniq p.cons_inv (List.pairwise_cons.mp hx).2 (List.pairwise_cons.mp hy).2]
def pD (p : Pr) : D := .tup [.str p.1, .str p.2]
/-- a list of pairs of texts -/
def prsOf : List D → Option (List Pr)
  | [] => some []
  | .tup [.str a, .str b] :: r => (prsOf r).map ((a, b) :: ·)
  | _ => none
theorem prsOf_map (ps : List Pr) : prsOf (ps.map pD) = some ps := by
  induction ps with
  | nil => rfl
  | cons p ps ih => rw [List.map_cons, pD, prsOf, ih]; rfl
theorem prsOf_eq : ∀ {ds : List D} {ps : List Pr}, prsOf ds = some ps → ds = ps.map pD := by
  intro ds
  induction ds with
  | nil => intro ps h; rw [prsOf] at h; cases h; rfl
  | cons d ds ih =>
    intro ps h
    unfold prsOf at h
    split at h
    · rename_i z; cases z
    · rename_i a b r z
      cases z
      obtain ⟨qs, e, rfl⟩ := Option.map_eq_some_iff.mp h
      rw [List.map_cons, ← ih e]
      rfl
    · cases h
/-! ### the call -/
section
variable {X : Cx} {C : Ct} {H : Hp} {ρ : Rg} {S : Sto}
/-- a pair of texts in the heap -/
theorem RepD.pair {x : V} {p : Pr} (h : RepD C H ρ x (pD p)) : ∃ t, x = .ref t ∧ SqT C.K H t [.str (mkS p.1), .str (mkS p.2)] := by
  unfold pD at h
  cases h with
  | tup ht r =>
    refine ⟨_, rfl, ?_⟩
    cases r with
    | cons r1 r2 =>
      cases r2 with
      | cons r2 r3 =>
        cases r3
        cases r1
        cases r2
        exact ht.sq
theorem pairs_mem : ∀ {xs : List V} {ps : List Pr}, RepA C H ρ xs (ps.map pD) → ∃ ts : List Addr, xs = ts.map V.ref ∧ ts.length = ps.length ∧ ∀ q ∈ ts.zip ps, RepD C H ρ (.ref q.1) (pD q.2)
  | _, [], .nil => ⟨[], rfl, rfl, fun q hq => nomatch hq⟩
  | _, p :: ps, .cons r rs => by
    obtain ⟨ts, e1, e2, e3⟩ := pairs_mem rs
    obtain ⟨t, e, _⟩ := RepD.pair r
    subst e
    refine ⟨t :: ts, by rw [e1]; rfl, by simp [e2], fun q hq => ?_⟩
    rcases List.mem_cons.mp (show q ∈ (t, p) :: ts.zip ps from hq) with z | z
    · rw [z]; exact r
    · exact e3 q z
theorem reads_pair {pins : List (Addr × Obj)} {σ : L2.St} {s : Shared} (hK : X.K = C.K) (I : Inv X pins σ H s) {t : Addr} {p : Pr} (h : RepD C H ρ (.ref t) (pD p)) : Reads s.heap (.ref t) (encP p) [] := by
  obtain ⟨t', e, hq⟩ := RepD.pair h
  cases e
  obtain ⟨its, r, ⟨o, ho, hc, n, hd⟩, _⟩ := I.tuple (by rw [hK]; exact hq)
  cases r with
  | cons r1 r =>
    cases r with
    | cons r2 r =>
      cases r
      obtain ⟨t1, e1⟩ := r1
      obtain ⟨t2, e2⟩ := r2
      subst e1 e2
      exact .tuple (as := [] ++ ([] ++ [])) ho hc hd (.cons (.str _ _) (.cons (.str _ _) .nil))
theorem is_txt {P : Program} {w : World} (k : Str) (t : Tok) : (PySem.strKind P w).is k (.str k t) = true := by
  simp [PySem.strKind, Value.isStrOf, Value.isStr]
theorem isP_pair {pins : List (Addr × Obj)} {σ : L2.St} {s : Shared} (hK : X.K = C.K) (I : Inv X pins σ H s) {t : Addr} {p : Pr} (h : RepD C H ρ (.ref t) (pD p)) : St.IsP X.prog X.w s.heap [mkS p.1, mkS p.2] t := by
  obtain ⟨t', e, hq⟩ := RepD.pair h
  cases e
  obtain ⟨its, r, ⟨o, ho, hc, n, hd⟩, _⟩ := I.tuple (by rw [hK]; exact hq)
  cases r with
  | cons r1 r =>
    cases r with
    | cons r2 r =>
      cases r
      obtain ⟨t1, e1⟩ := r1
      obtain ⟨t2, e2⟩ := r2
      subst e1 e2
      exact ⟨o, _, n, ho, hc, hd, .cons (is_txt _ _) (.cons (is_txt _ _) .nil)⟩
theorem alike_encs (ps : List Pr) : PySem.W.AllAlike (ps.map encP) := PySem.W.AllAlike.of fun a b => by simp [encP, PySem.W.alike, PySem.W.alikeAll]
theorem sortable_encs (ps : List Pr) : PySem.W.Sortable (ps.map encP) := PySem.W.Sortable.tuples fun b => ⟨_, _, rfl⟩
theorem depth_enc (p : Pr) : (encP p).depth ≤ 2 := by simp [encP, PyData.depth, PyData.depthAll]
/-- a list of addresses that stand for pairs -/
theorem each_refs : ∀ {out : List Value} {ps : List Pr}, PySem.W.EachIs (fun v p => ∃ t, v = Value.ref t ∧ RepD C H ρ (.ref t) (pD p)) out ps → ∃ ts : List Addr, out = ts.map Value.ref ∧ Vals (ts.map V.ref) out ∧ RepA C H ρ (ts.map V.ref) (ps.map pD)
  | _, _, .nil => ⟨[], rfl, .nil, .nil⟩
  | _, _, .cons h t => by
    obtain ⟨a, e, r⟩ := h
    subst e
    obtain ⟨ts, e1, e2, e3⟩ := each_refs t
    exact ⟨a :: ts, by rw [e1]; rfl, .cons rfl e2, .cons r e3⟩
theorem refs_each {ts : List Addr} : ∀ {ps : List Pr}, ts.length = ps.length → (∀ q ∈ ts.zip ps, RepD C H ρ (.ref q.1) (pD q.2)) → PySem.W.EachIs (fun v p => ∃ t, v = Value.ref t ∧ RepD C H ρ (.ref t) (pD p)) (ts.map Value.ref) ps := by
  induction ts with
  | nil => intro ps hl _; cases ps with | nil => exact .nil | cons _ _ => cases hl
  | cons t ts ih =>
    intro ps hl h
    cases ps with
    | nil => cases hl
    | cons p ps => exact .cons ⟨t, rfl, h (t, p) List.mem_cons_self⟩ (ih (Nat.succ.inj hl) fun q hq => h q (List.mem_cons_of_mem _ hq))
theorem vals_refs : ∀ {ts : List Addr} {us : List Value}, Vals (ts.map V.ref) us → us = ts.map Value.ref
  | [], _, .nil => rfl
  | t :: ts, _, .cons r rs => by cases r; rw [vals_refs rs]; rfl
theorem each_and {α β : Type} {R R' : α → β → Prop} : ∀ {as : List α} {bs : List β}, PySem.W.EachIs R as bs → (∀ a b, R a b → R' a b) → PySem.W.EachIs R' as bs
  | _, _, .nil, _ => .nil
  | _, _, .cons h t, f => .cons (f _ _ h) (each_and t f)
def sortedD : List D → Option D
  | [.lst xs] => (prsOf xs).bind fun ps => if ps.length ≤ szL then some (.lst ((sortP ps).map pD)) else none
  | _ => none
theorem call_sortedP (hK : X.K = C.K) (hu : X.A.units + 65 < cLine) : CallR X (.builtin "sorted") (rPn C sortedD) := by
  intro pins s σ H xs us Q I r h
  obtain ⟨ρ, S, ds, z, st, hx, hg, q⟩ := h
  unfold sortedD at hg
  split at hg
  · obtain ⟨x, rfl, hv⟩ := vw1 hx
    obtain ⟨a, ys, rfl, ha, ra⟩ := hv.lst
    obtain ⟨ps, e, hg⟩ := Option.bind_eq_some_iff.mp hg
    split at hg
    · rename_i hl
      cases hg
      rw [prsOf_eq e] at ra
      obtain ⟨ts, e1, e2, e3⟩ := pairs_mem ra
      subst e1
      obtain ⟨its, rits, pl, _⟩ := I.list (X := X) (xs := ts.map V.ref) (a := a) (.inl (.inl ha))
      rw [Vals.ref1 r]
      have ei := vals_refs rits
      subst ei
      have each := refs_each e2 e3
      refine PySem.W.sorted_data (enc := encP) (R := fun v p => ∃ t, v = Value.ref t ∧ RepD C H ρ (.ref t) (pD p)) pl.isList each (each_and each fun v p ⟨t, q1, q2⟩ => ?_) (alike_encs ps) (sortable_encs ps) (by rw [szL_eq]; exact hl) (fun b _ => by have := depth_enc b; omega) fun out lo eo => ?_
      · subst q1
        exact ⟨_, reads_pair hK I q2⟩
      · rw [leP_enc] at eo
        obtain ⟨ts2, f1, f2, f3⟩ := each_refs eo
        obtain ⟨cc, hcc⟩ := PyProof.Rows.sortedAll_at s.heap (ts.map Value.ref) out.toArray
        have hn : H (s.heap.objs.size + 1) = none := I.hok.fresh (Nat.le_succ _)
        have hlen : (ts2.map V.ref).length ≤ sizeLine := by
          rw [f2.length, lo, szL_eq]
          exact hl
        exact ⟨.ref (s.heap.objs.size + 1), upd H (s.heap.objs.size + 1) (.lst (ts2.map V.ref)), I.laid (t' := s.toks) (fun _ _ => PyProof.Rows.sortedAll_old) (Nat.le_succ _) ⟨hlen, out, cc, f2, hcc⟩, rfl, finL st q f3 hn⟩
    · cases hg
  · cases hg
end
end EK

set_option Elab.async false
set_option linter.all false
set_option maxRecDepth 100000
set_option maxHeartbeats 4000000
/-! sorted(set(xs)) of pairs of texts: the expression -/
namespace EK
open PySem PySem.Spec PyProof.Rows L2
def keyM (p : St.Mem) : Pr := match p.2 with
  | [x, y] => (x.cps.toList, y.cps.toList)
  | _ => ([], [])
def memOf (q : Addr × Pr) : St.Mem := (q.1, [mkS q.2.1, mkS q.2.2])
theorem keyM_of (q : Addr × Pr) : keyM (memOf q) = q.2 := rfl
section
variable {P : Program} {w : World} {A : Around} {E : Value → Shared → Prop} {s : Shared}
/-- sorted(s), s a set of pairs of texts -/
theorem sorted_set {a : Addr} {L : List St.Mem} {es : Array (Int × Value)} {ep : Nat} {t : SetTable} {Q : Value → Shared → Prop} (R : St.SR P w s.heap a L es ep t) (hh : A.handled = none) (hu : A.units + 65 < cLine) (few : L.length ≤ 300)
    (two : ∀ p ∈ L, ∃ q, p = memOf q) (rd : ∀ p ∈ L, Reads s.heap (.ref p.1) (encP (keyM p)) [])
    (hQ : ∀ s' p (out : Array Value) (c : Nat) (bs : List St.Mem), (∀ b o, s.heap.get? b = some o → s'.heap.get? b = some o) → s'.gens = s.gens → s'.os = s.os → s.heap.objs.size ≤ p →
      s'.heap.get? p = some (seqObj "list" out c) → bs.Perm L → bs.Pairwise (fun x y => leP (keyM x) (keyM y) = true) → out.toList = bs.map (fun q => Value.ref q.1) → Q (.ref p) s') :
    wpAny (model P w) A (call (.builtin "sorted") [.ref a]) Q E s := by
  obtain ⟨o, ho, hex, hd⟩ := R.ob
  have hz := St.rws_size R.rows
  refine Calls.call_function_entry kind_sorted plain_sorted entry_sorted (args_sorted1 _) ?_
  unfold Builtin.«sorted»
  refine wpAny_bind (m := checkCount "sorted" 1 1 _) (wpAny_pure ?_)
  refine wpAny_bind (collect_set (A := A.in1) hh ⟨o, ho, hex.1, hd⟩ R.fits (by unfold scanBound; omega) R.tab.ris R.led fun s1 vs k1 z1 g1 o1 pm => ?_)
  have ev : es.toList.map (·.2) = L.map fun q => Value.ref q.1 := by
    rw [R.rows]
    unfold St.rws
    rw [List.map_map]
    rfl
  rw [ev] at pm
  obtain ⟨bs, eb, pb⟩ : ∃ bs : List St.Mem, vs = bs.map (fun q => Value.ref q.1) ∧ bs.Perm L := by
    clear ev
    have : ∀ (vs : List Value) (L : List St.Mem), vs.Perm (L.map fun q => Value.ref q.1) → ∃ bs : List St.Mem, vs = bs.map (fun q => Value.ref q.1) ∧ bs.Perm L := by
      intro vs
      induction vs with
      | nil =>
        intro L pm
        have : L.map (fun q => Value.ref q.1) = [] := List.nil_perm.mp pm
        rw [List.map_eq_nil_iff] at this
        subst this
        exact ⟨[], rfl, .refl _⟩
      | cons v vs ih =>
        intro L pm
        obtain ⟨q, m, e⟩ := List.mem_map.mp (pm.mem_iff.mp List.mem_cons_self)
        obtain ⟨l1, l2, e2⟩ := List.append_of_mem m
        subst e2
        have p2 : (v :: vs).Perm (v :: (l1 ++ l2).map fun q => Value.ref q.1) := by
          refine pm.trans ?_
          rw [← e, List.map_append, List.map_cons, List.map_append]
          exact List.perm_middle
        obtain ⟨bs, b1, b2⟩ := ih (l1 ++ l2) p2.cons_inv
        exact ⟨q :: bs, by rw [b1, ← e]; rfl, (b2.cons q).trans List.perm_middle.symm⟩
    exact this vs L pm
  subst eb
  have lb : bs.length ≤ 300 := by rw [pb.length_eq]; exact few
  refine wpAny_bind (wpAny_newList ?_ (by rw [List.length_map, sizeLine_eq]; omega))
  have hoL : (s1.heap.push (seqObj "list" (bs.map fun q => Value.ref q.1).toArray 0)).get? s1.heap.objs.size = some (seqObj "list" (bs.map fun q => Value.ref q.1).toArray 0) := Heap.get?_push_size _ rfl
  have inL : ∀ q ∈ bs, q ∈ L := fun q hq => pb.mem_iff.mp hq
  have each : PySem.W.EachIs (fun v (q : St.Mem) => v = Value.ref q.1 ∧ q ∈ L) (bs.map fun q => Value.ref q.1) bs := by
    clear pm pb lb hoL
    induction bs with
    | nil => exact .nil
    | cons b bs ih => exact .cons ⟨rfl, inL b List.mem_cons_self⟩ (ih fun q hq => inL q (List.mem_cons_of_mem _ hq))
  refine wpAny_bind (wpAny_holding (PySem.W.list_sort_data (s := { s1 with heap := s1.heap.push (seqObj "list" (bs.map fun q => Value.ref q.1).toArray 0) }) (enc := fun q => encP (keyM q)) (R := fun v (q : St.Mem) => v = Value.ref q.1 ∧ q ∈ L) hoL each (each_and each fun v q ⟨e1, e2⟩ => ?_) ?_ ?_ (by rw [sizeLine_eq]; omega) (fun b _ => ?_) fun out lo eo => ?_))
  · subst e1
    obtain ⟨q0, e0⟩ := two q e2
    exact ⟨[], PyProof.Rows.Reads.keeps (fun b u e => Heap.get?_push_of_some _ e) (PyProof.Rows.Reads.keeps k1 (rd q e2)), by simp⟩
  · exact PySem.W.AllAlike.of fun a b => by simp [encP, PySem.W.alike, PySem.W.alikeAll]
  · exact PySem.W.Sortable.tuples fun b => ⟨_, _, rfl⟩
  · have := depth_enc (keyM b)
    simp only [Around.in1]
    omega
  · have le_eq : PySem.W.dataLe false (fun q : St.Mem => encP (keyM q)) = fun x y => leP (keyM x) (keyM y) := by
      have := leP_enc
      funext x y
      exact congrFun (congrFun this (keyM x)) (keyM y)
    rw [le_eq] at eo
    have tot : PySem.W.TotalLe (fun x y : St.Mem => leP (keyM x) (keyM y)) := ⟨fun a b c => leP_total.trans _ _ _, fun a b => leP_total.total _ _⟩
    have eout : out = (bs.mergeSort fun x y => leP (keyM x) (keyM y)).map fun q => Value.ref q.1 := by
      generalize (bs.mergeSort fun x y => leP (keyM x) (keyM y)) = zs at eo
      clear lo
      induction eo with
      | nil => rfl
      | cons h t ih => rw [List.map_cons, ← ih, h.1]
    obtain ⟨c, hc⟩ := sortedHeap_at (vs := bs.map fun q => Value.ref q.1) (out := out.toArray) hoL
    refine wpAny_pure ⟨_, rfl, hQ _ s1.heap.objs.size out.toArray c (bs.mergeSort fun x y => leP (keyM x) (keyM y)) (fun b u e => ?_) g1 o1 z1 hc ((List.mergeSort_perm ..).trans pb) (PySem.W.sort_pairwise tot bs) eout⟩
    have e1 := k1 b u e
    have lt := Heap.lt_size e1
    show (sortedHeap (s1.heap.push _) s1.heap.objs.size _ out.toArray).get? b = some u
    rw [sortedHeap_old (Nat.ne_of_lt lt) (by rw [size_push']; exact Nat.lt_succ_of_lt lt)]
    exact Heap.get?_push_of_some _ e1
end
theorem dups_nodup : ∀ (n : Nat) (ps : List Pr), ps.length ≤ n → ps.eraseDups.Nodup
  | _, [], _ => List.nodup_nil
  | 0, _ :: _, h => by cases h
  | n + 1, p :: ps, h => by
    rw [List.eraseDups_cons]
    refine List.nodup_cons.mpr ⟨fun m => ?_, dups_nodup n _ (Nat.le_trans (List.length_filter_le ..) (Nat.le_of_succ_le_succ h))⟩
    rw [List.mem_eraseDups, List.mem_filter] at m
    simp at m
/-- sorted(set(x)), x a list of pairs of texts -/
def srsD (d : D) : Option D := match d with
  | .lst ds => (prsOf ds).bind fun ps => if ps.length ≤ 300 then some (.lst ((sortP ps.eraseDups).map pD)) else none
  | _ => none
section
variable {X : Cx} {C : Ct} {ta : TE} {a : Expr} {p p2 q pos : Pos}
theorem pe_srs (hK : X.K = C.K) (hc : X.calm = true) (hu : X.A.units + 65 < cLine) (hg : Gl X "sorted") (hm : X.mg "sorted" = none) (hg2 : Gl X "set") (hm2 : X.mg "set" = none) (ha : PE X a ta)
    (na : starEach [a] X.env = (false, eval a X.env) :: starEach [] X.env) : PE X (.Call (.Name "sorted" p) [.Call (.Name "set" p2) [a] [] q] [] pos)
      (fun σ H Q => ta σ H fun x H1 => ∃ ρ S d z, StOk C H1 ρ S ∧ VwR C H1 ρ x d ∧ srsD d = some z ∧ ∀ v H', Nx H1 ρ H' ρ → StOk C H' ρ S → RepD C H' ρ v z → Q v H') := by
  refine ⟨fun pins s σ H Q I h => ?_⟩
  refine Call_ (ld_blt I hg hm PyProof.Rows.boot_sorted ?_)
  refine PyProof.Rows.callWith_builtin1 (PyProof.Rows.args_cons ?_ rfl) rfl rfl
  refine Call_ (ld_blt I hg2 hm2 PyProof.Rows.boot_set ?_)
  refine PyProof.Rows.callWith_type1 (PyProof.Rows.args_cons (thn (ha.run pins s σ H _ I h) fun v s1 ⟨x, H1, I1, r1, q1⟩ => PyProof.Rows.args_nil ?_) na) na rfl
  obtain ⟨ρ, S, d, z, st, hx, hg, q1⟩ := q1
  unfold srsD at hg
  split at hg
  · rename_i ds
    obtain ⟨l, ys, rfl, hl, ra⟩ := hx.lst
    obtain ⟨ps, e, hg⟩ := Option.bind_eq_some_iff.mp hg
    split at hg
    · rename_i few
      cases hg
      cases r1
      rw [prsOf_eq e] at ra
      obtain ⟨ts, e1, e2, e3⟩ := pairs_mem ra
      subst e1
      obtain ⟨its, rits, pl, _⟩ := I1.list (X := X) (xs := ts.map V.ref) (a := l) (.inl (.inl hl))
      have ei := vals_refs rits
      subst ei
      have zl : (ts.zip ps).length = ps.length := by rw [List.length_zip]; omega
      have kfst : ((ts.zip ps).map memOf).map (fun p => Value.ref p.1) = ts.map Value.ref := by
        rw [List.map_map]
        have : (ts.zip ps).map (·.1) = ts := List.map_fst_zip (by omega)
        conv => rhs; rw [← this, List.map_map]
        rfl
      refine St.call_set ((ts.zip ps).map memOf) (I1.ok.hd hc) pl.isList (by rw [kfst]) (fun m hm => ?_) (by rw [List.length_map, zl]; exact few) (by omega) fun h' tk L es ep t R g k => ?_
      · obtain ⟨q0, m0, rfl⟩ := List.mem_map.mp hm
        exact isP_pair hK I1 (e3 q0 m0)
      · refine PyProof.Rows.args_nil ?_
        have I2 : Inv X pins σ H1 { s1 with heap := h', toks := tk } := I1.kept k
        have src : ∀ p ∈ L, ∃ q0 ∈ ts.zip ps, p = memOf q0 := fun p hp => by
          obtain ⟨q0, m0, e0⟩ := List.mem_map.mp (List.mem_of_mem_take (g.sub p hp))
          exact ⟨q0, m0, e0.symm⟩
        refine sorted_set (s := { s1 with heap := h', toks := tk }) R (I1.ok.hd hc) hu (by have := g.len; rw [List.length_map, zl] at this; omega) (fun p hp => ?_) (fun p hp => ?_) fun s' p out c bs kk gn oo szp hout pm pw eout => ?_
        · obtain ⟨q0, _, e0⟩ := src p hp
          exact ⟨q0, e0⟩
        · obtain ⟨q0, m0, e0⟩ := src p hp
          subst e0
          exact reads_pair hK I2 (e3 q0 m0)
        · have keys : bs.map keyM = sortP ps.eraseDups := by
            have ndL : (L.map keyM).Nodup := by
              have e9 : L.map (·.2) = (L.map keyM).map fun x : Pr => [mkS x.1, mkS x.2] := by
                rw [List.map_map]
                refine List.map_congr_left fun p hp => ?_
                obtain ⟨q0, _, e0⟩ := src p hp
                subst e0
                rfl
              have := R.nd
              rw [e9] at this
              exact List.Pairwise.of_map (fun x : Pr => [mkS x.1, mkS x.2]) (fun _ _ hne e => hne (congrArg (fun x : Pr => [mkS x.1, mkS x.2]) e)) this
            refine sortP_uniq ?_ (List.pairwise_map.mpr pw) (sortP_le _)
            refine ((pm.map keyM).trans ?_).trans (sortP_perm _).symm
            refine (List.perm_ext_iff_of_nodup ndL ?_).mpr fun x => ?_
            · exact dups_nodup _ _ (Nat.le_refl _)
            · rw [List.mem_eraseDups]
              constructor
              · intro hx
                obtain ⟨p0, m1, rfl⟩ := List.mem_map.mp hx
                obtain ⟨q0, m0, rfl⟩ := src p0 m1
                exact (List.of_mem_zip m0).2
              · intro hx
                obtain ⟨i, hi, ex⟩ := List.mem_iff_getElem.mp hx
                have hz : i < (ts.zip ps).length := by rw [zl]; exact hi
                have m0 : (ts.zip ps)[i] ∈ ts.zip ps := List.getElem_mem hz
                have m1 : memOf (ts.zip ps)[i] ∈ (ts.zip ps).map memOf := List.mem_map_of_mem m0
                have := g.all (memOf (ts.zip ps)[i]) (by rw [List.take_length]; exact m1)
                obtain ⟨p1, m2, e4⟩ := List.mem_map.mp this
                refine List.mem_map.mpr ⟨p1, m2, ?_⟩
                have : keyM p1 = keyM (memOf (ts.zip ps)[i]) := by unfold keyM; rw [e4]
                rw [this, keyM_of, List.getElem_zip]
                exact ex
          have hn : H1 p = none := I2.hok.fresh szp
          have rep : RepA C H1 ρ (bs.map fun q => V.ref q.1) ((sortP ps.eraseDups).map pD) := by
            rw [← keys, List.map_map]
            have sub : ∀ b ∈ bs, ∃ q0 ∈ ts.zip ps, b = memOf q0 := fun b hb => src b (pm.mem_iff.mp hb)
            clear keys eout pw pm
            induction bs with
            | nil => exact .nil
            | cons b bs ih =>
              obtain ⟨q0, m0, e0⟩ := sub b List.mem_cons_self
              subst e0
              exact .cons (e3 q0 m0) (ih fun b hb => sub b (List.mem_cons_of_mem _ hb))
          have hv : Vals (bs.map fun q => V.ref q.1) out.toList := by
            rw [eout]
            clear keys eout pw pm rep
            induction bs with
            | nil => exact .nil
            | cons b bs ih => exact .cons rfl ih
          have hlen : (bs.map fun q => V.ref q.1).length ≤ sizeLine := by
            have := g.len
            rw [List.length_map, zl] at this
            rw [List.length_map, pm.length_eq, sizeLine_eq]
            omega
          have J : Inv X pins σ (upd H1 p (.lst (bs.map fun q => V.ref q.1))) { { s1 with heap := h', toks := tk } with heap := s'.heap, gens := s'.gens, drawn := s'.drawn, toks := s'.toks } :=
            I2.call (ch := []) (Un.laid kk szp hn) (I2.hok.laid kk szp ⟨hlen, out.toList, c, hv, hout⟩) (by rw [gn]; exact I2.bare) (fun _ z => nomatch z)
          have es' : s' = { { s1 with heap := h', toks := tk } with heap := s'.heap, gens := s'.gens, drawn := s'.drawn, toks := s'.toks } := by
            cases s'
            cases oo
            rfl
          rw [es']
          exact ⟨.ref p, _, J, rfl, finL st q1 rep hn⟩
    · cases hg
  · cases hg
end
end EK

set_option Elab.async false
set_option linter.all false
set_option maxRecDepth 100000
set_option maxHeartbeats 4000000
namespace EK
open PySem L2 PySem.Spec PySem.W PySem.Calls
open HandSPX
/-! ### C(f=v): an error is made by its field's name -/
section
variable {M : Model} {A : Around} {E : Value → Shared → Prop} {h : Heap} {g : Array GenState} {d : Drawn} {t : Nat} {os : OsState}
variable {nm q : Str} {C N : Addr} {bs bm bmB : List Value} {hdct : Bool} {sn : List Str} {sub : List Value} {ab : Bool} {col : Option Bool} {dd : Option Addr} {k0 k1 k2 k3 k5 : Option Value} {B newId initId : String}
theorem check_new_kw (F : ExcBaseFacts B newId initId bmB) (hT : ∀ X : String, bm.contains (.type X) = bmB.contains (.type X)) {kw : List (Str × Value)} {Q : Unit → Shared → Prop}
    (hC : h.get? C = some (excClassObj nm q C N bs bm hdct sn sub ab col dd k0 k1 k2 k3 k5 newId)) (hq : Q () ⟨h, g, d, t, os⟩) : wpAny M A (checkBuiltinCall newId ⟨[.ref C], kw⟩) Q E ⟨h, g, d, t, os⟩ := by
  have hcont : (Value.ref C :: bm).contains (.type B) = true := by rw [List.contains_cons, hT, F.hasB, Bool.or_true]
  have hstar := F.noStar
  simp only [checkBuiltinCall, F.newKind, F.newSplit, F.newRow]
  repeat (first | refine wpAny_loadPart_at hC ?_ | (refine wpAny_isSubtype_exc hC ?_; rw [hcont]) | refine wpAny_staticBase_exc hC ?_ | refine wpAny_madeBy_exc hC ?_ | simp only [bne_self_eq_false, Bool.false_eq_true, if_false] | wp_step)
  exact hq
end
section
variable {prog : Program} {w : World} {A : Around} {E : Value → Shared → Prop} {R : Result → Shared → Prop} {h : Heap} {g : Array GenState} {d : Drawn} {t : Nat} {os : OsState}
variable {nm q : Str} {C N : Addr} {bs bm bmB : List Value} {hdct : Bool} {sn : List Str} {sub : List Value} {ab : Bool} {col : Option Bool} {dd : Option Addr} {k0 k1 k2 k3 k5 : Option Value} {B newId initId : String}
theorem new_kw (F : ExcBaseFacts B newId initId bmB) (hT : ∀ X : String, bm.contains (.type X) = bmB.contains (.type X)) {kw : List (Str × Value)}
    (hC : h.get? C = some (excClassObj nm q C N bs bm hdct sn sub ab col dd k0 k1 k2 k3 k5 newId))
    (hq : R (.ok (.ret (.ref (h.objs.size + 1)))) ⟨(h.push { cls := .type "tuple", data := .seq #[] }).push
      { cls := .ref C, data := .fields #[.ref h.objs.size, .none, .none, .none, .bool false, .none] }, g, d, t, os⟩) :
    codeAny (model prog w) A (.builtin newId ⟨[.ref C], kw⟩) R ⟨h, g, d, t, os⟩ := by
  have hends := F.ends
  have hrest : ([] : List Value).length ≤ sizeLine := Nat.zero_le _
  have hcB : (Value.ref C :: bm).contains (.type B) = true := by rw [List.contains_cons, hT, F.hasB, Bool.or_true]
  have hcA : (Value.ref C :: bm).contains (.type "AttributeError") = false := by rw [List.contains_cons, hT, F.noAttr]; rfl
  have hcN : (Value.ref C :: bm).contains (.type "NameError") = false := by rw [List.contains_cons, hT, F.noName]; rfl
  refine codeAny_builtinAt F.entry ?_
  unfold Builtin.«BaseException.__new__»
  refine wpAt_bind ?_
  show wpAt _ _ _ (stack >>= _) _ _ _
  refine wpAt_bind (wpAt_stack fun p below => wpAt_of_wpAny ?_)
  wp_walk
  refine wpAt_of_wpAny ?_
  rw [F.owner]
  repeat (first | with_reducible refine wpAny_madeHere_exc F.canon hC ?_ | with_reducible refine wpAny_loadPart_at hC ?_ | (with_reducible refine wpAny_isSubtype_exc hC ?_; first | rw [hcB] | rw [hcA] | rw [hcN]) | wp_step)
  show R _ _
  rw [Heap.size_push]
  exact hq
theorem type_call_kw (F : ExcBaseFacts B newId initId bmB) (hT : ∀ X : String, bm.contains (.type X) = bmB.contains (.type X)) {kw : List (Str × Value)} {fI : Addr} {Q : Fin → Shared → Prop}
    (hC : h.get? C = some (excClassObj nm q C N bs bm hdct sn sub ab col dd k0 k1 k2 k3 k5 newId))
    (hi : W.Looks (model prog w) h (typeLookup (.ref C) "__init__") (some (.ref fI))) (hb : ∀ self, W.Looks (model prog w) h (bindSpecial (.ref fI) self) (.ref fI, [self]))
    (hq : codeAny (model prog w) A (.call (.ref fI) ⟨[.ref (h.objs.size + 1)], kw⟩)
      (fun r s' => match r with | .ok (.ret v) => v = .none ∧ Q (.done (.ret (.ref (h.objs.size + 1)))) s' | .ok _ => False | .error e => E e s')
      ⟨(h.push (W.kdv_tup [])).push (HandSPX.excO C h.objs.size), g, d, t, os⟩) :
    wpAny (model prog w) A (Builtin.«type.__call__» ⟨[.ref C], kw⟩) Q E ⟨h, g, d, t, os⟩ := by
  repeat (first | with_reducible refine wpAny_loadPart_at hC ?_ | with_reducible refine wpAny_madeBy_exc hC ?_ | wp_step)
  refine codeAny_call_builtin_code (Code.quiet_builtin _ F.quiet) (check_new_kw F hT hC ?_)
  refine new_kw F hT hC ?_
  show wpAny _ _ _ _ _ _
  have k : ∀ b o, h.get? b = some o → ((h.push (W.kdv_tup [])).push (HandSPX.excO C h.objs.size)).get? b = some o := fun b o e => Heap.get?_push_of_some _ (Heap.get?_push_of_some _ e)
  have hC₁ := k _ _ hC
  have hget : ((h.push (W.kdv_tup [])).push (HandSPX.excO C h.objs.size)).get? (h.objs.size + 1) = some (HandSPX.excO C h.objs.size) := by heap_get
  have hcC : (Value.ref C :: bm).contains (.ref C) = true := by simp
  have i1 := hi.keeps k
  have b1 := (hb (.ref (h.objs.size + 1))).keeps k
  unfold isInstance
  repeat (first | with_reducible refine wpAny_loadPart_at hget ?_ | (with_reducible refine wpAny_isSubtype_exc hC₁ ?_; rw [hcC]) | wp_step)
  show wpAny _ _ (typeLookup (.ref C) _) _ _ _
  refine i1.at ?_
  refine wpAny_holding (wpAny_bind (b1.at ?_))
  refine wpAny_bind (wpAny_call (codeAny_mono hq fun r s' z => ?_))
  rcases r with e | (v | _ | _ | _) <;> first | exact z | exact z.elim | skip
  obtain ⟨rfl, z⟩ := z
  first
    | exact wpAny_pure (wpAny_pure z)
    | (wp_walk; exact z)
theorem call_kw (F : ExcBaseFacts B newId initId bmB) (hT : ∀ X : String, bm.contains (.type X) = bmB.contains (.type X)) {kw : List (Str × Value)} {fI : Addr}
    (hC : h.get? C = some (excClassObj nm q C N bs bm hdct sn sub ab col dd k0 k1 k2 k3 k5 newId))
    (hi : W.Looks (model prog w) h (typeLookup (.ref C) "__init__") (some (.ref fI))) (hb : ∀ self, W.Looks (model prog w) h (bindSpecial (.ref fI) self) (.ref fI, [self]))
    (hq : codeAny (model prog w) (A.under (.builtin "type.__call__" ⟨[.ref C], kw⟩)) (.call (.ref fI) ⟨[.ref (h.objs.size + 1)], kw⟩) (W.InitBack (h.objs.size + 1) R)
      ⟨(h.push (W.kdv_tup [])).push (HandSPX.excO C h.objs.size), g, d, t, os⟩) :
    codeAny (model prog w) A (.call (.ref C) ⟨[], kw⟩) R ⟨h, g, d, t, os⟩ := by
  have f1 := tc_lookup
  have f2 := tc_bind (.ref C)
  have hTy : (⟨h, g, d, t, os⟩ : Shared).TypeIs (.ref C) "type" := ⟨_, hC, rfl⟩
  refine codeAny_of_tree ?_
  show wpAny _ _ (callAny (.ref C) _) _ _ _
  repeat (any_goals (first | assumption | with_reducible refine wpAny_loadPart_at hC ?_ | wp_step))
  refine ⟨rfl, ?_⟩
  refine codeAny_call_builtin_at (Code.quiet_builtin _ (by decide +kernel)) entry_typeCall (wpAny_check_type_call_sub hC (type_call_kw F hT hC hi hb ?_))
  refine codeAny_mono hq fun r s' z => ?_
  rcases r with e | (v | _ | _ | _) <;> exact z
end
section
variable {prog : Program} {w : World} {A : Around} {E : Value → Shared → Prop} {K : W.Frag} {mg : Str → Option Value} {base : Heap}
open PyProof.Rows
theorem xmakeK {C : Addr} {f : Str} {B newId initId : String} {bmB : List Value} {k : Nat} {s : Shared} {v : Value} {Q : Value → Shared → Prop} (T : XC prog K C f B newId initId bmB) (M : L2.Mod K mg base) (hsup : mg "super" = none)
    (bs : ∀ b o, base.get? b = some o → s.heap.get? b = some o) (hr : Room (k + 1) A)
    (hq : ∀ h' tk' a d t1, (∀ b o, s.heap.get? b = some o → h'.get? b = some o) → s.heap.objs.size ≤ a → s.heap.objs.size ≤ d → d ≠ a → h'.get? a = some (excObj C t1 (some d) .none) →
      h'.Ns1 d (fun y => if y = f then some v else none) → Q (.ref a) { s with heap := h', toks := tk' }) :
    wpAny (model prog w) A (call (.ref C) [] [(f, v)]) Q E s := by
  obtain ⟨fI, cc, cda, od, od2, od3, osl, osl2, osl3, qual, params, scope, dV, kV, doc, pm, ct, ccl, cl, an, msg, j, p0, p1, p2, p3, p4, p5, p6, p7, p8, p9, vs, file, tf, ar, hfi, lkf, hcd, lkc, hvs, hfile, lkcell, hpar, harg, n1, n2, n3, n4, hkd, hco, hgen, hcel, hdb, hfs, hln, hbind, hkw⟩ := T.fn
  obtain ⟨kd, nms, gn, co, mr⟩ := scope
  dsimp only at hkd hco hgen n1 n2 n3 n4 hcel
  subst hkd hco hgen
  obtain ⟨hp, g, dr, tk, os⟩ := s
  have X : K.In hp := M.kin.keeps bs
  obtain ⟨nm, N', qn, bs', bm, hdct, sn, sub, ab, col, dd, k0, k1, k2, k3, k5, hC, hT⟩ := excInit_of X T.ini
  refine wpAny_call (call_kw T.fb hT hC (looks_findIn X hfi) (fun self => exc_bind (X _ _ lkf) rfl self) ?_)
  have kk : ∀ b o, hp.get? b = some o → ((hp.push (W.kdv_tup [])).push (HandSPX.excO C hp.objs.size)).get? b = some o := fun b o e => Heap.get?_push_of_some _ (Heap.get?_push_of_some _ e)
  have hget : ((hp.push (W.kdv_tup [])).push (HandSPX.excO C hp.objs.size)).get? (hp.objs.size + 1) = some (excObj C hp.objs.size none .none) := by heap_get
  have hsz : ((hp.push (W.kdv_tup [])).push (HandSPX.excO C hp.objs.size)).objs.size = hp.objs.size + 2 := by rw [Heap.size_push, Heap.size_push]
  generalize hh2 : (hp.push (W.kdv_tup [])).push (HandSPX.excO C hp.objs.size) = h2 at kk hget hsz ⊢
  refine ks_codeAny_call_defAt (s := ⟨h2, g, dr, tk, os⟩) (fd := ksFn "__init__" qual params (xBody f msg j p0 p1 p2 p3 p4 p5 p6 p7 p8 p9) ⟨.function, nms, false, false, mr⟩ dV kV doc pm an (.ref cda) ct cc) (body := xBody f msg j p0 p1 p2 p3 p4 p5 p6 p7 p8 p9)
    (binds := [(("self" : Str), .ref (hp.objs.size + 1)), (f, v)]) (hr.make C [] [(f, v)]).depth (kk _ _ (X _ _ lkf)) rfl ((M.nolimit.keeps bs).keeps kk) (codeRec_of (X.keeps kk) hcd) rfl (BindsTo.of_eq (hkw _ _)) hcel (fun y hy => ?_) (fun h₁ hns hk₁ => ?_) rfl rfl rfl
  · rcases List.mem_cons.mp hy with rfl | hy
    · exact n3
    · obtain rfl := List.mem_singleton.mp hy
      exact n4
  have lkS : [(("self" : Str), Value.ref (hp.objs.size + 1)), (f, v)].reverse.lookup ("self" : Str) = some (Value.ref (hp.objs.size + 1)) := by
    have e : ((("self" : Str)) == f) = false := by
      rw [beq_eq_false_iff_ne]
      exact fun z => hfs z.symm
    show List.lookup _ [(f, v), (("self" : Str), Value.ref (hp.objs.size + 1))] = _
    rw [List.lookup_cons, e]
    rfl
  have lkF : [(("self" : Str), Value.ref (hp.objs.size + 1)), (f, v)].reverse.lookup f = some v := by
    show List.lookup _ [(f, v), (("self" : Str), Value.ref (hp.objs.size + 1))] = _
    rw [List.lookup_cons, beq_self_eq_true]
  have k1 : ∀ b o, hp.get? b = some o → h₁.get? b = some o := fun b o e => hk₁ b o (kk b o e)
  have kB : ∀ b o, base.get? b = some o → h₁.get? b = some o := fun b o e => k1 b o (bs b o e)
  have X1 : K.In h₁ := M.kin.keeps kB
  obtain ⟨mb, hmb, hbb⟩ := M.blt
  obtain ⟨cd, hc⟩ : ∃ cd, clsIn K C = some cd := by
    obtain ⟨cd, hc, _⟩ := any_some T.hd
    exact ⟨cd, hc⟩
  have hDx : ∀ {h : Heap}, K.In h → ∃ oD, h.get? C = some oD ∧ oD.data = .cls cd := fun {h} Xh => by
    have hc := hc
    unfold clsIn at hc
    split at hc
    · rename_i ho
      cases hc
      exact ⟨_, Xh _ _ ho, rfl⟩
    · cases hc
  obtain ⟨oD, hD1, hD2⟩ := hDx X1
  have hx1 : h₁.get? (hp.objs.size + 1) = some (excObj C hp.objs.size none .none) := hk₁ _ _ hget
  refine ks_wpAt_execs_cons (ks_wpAt_Expr_any (ks_wpAt_MethodCall (ks_wpAt_super_base (f := fI) (cc := cda) (ar := ar) n1 n2 (by decide) rfl (X1 _ _ lkf) rfl hpar rfl (X1 _ _ lkc) rfl hvs hfile T.top ?_) (mcall_eq hln rfl)))
  refine ks_loadName_global rfl n1 (loadGlobal_builtin (M.glob.keeps kB) hsup (hmb.keeps kB) ((hbb _ (by decide)).trans PyProof.Rows.Boot.«super») ⟨rfl, ?_⟩)
  refine wpAny_loadName_free (c := cc) rfl n2 rfl ⟨_, X1 _ _ lkcell, rfl⟩ ?_
  rw [harg]
  refine wpAny_loadName_local (v := .ref (hp.objs.size + 1)) rfl n3 hns lkS ?_
  refine ks_wpAny_isType_cls hD1 hD2 ⟨rfl, ?_⟩
  refine ks_wpAny_call_super hD1 hD2 hx1 rfl (fun c e => by cases e) (looks_mroIn X1 T.own) (fun h3 hso k3 => ?_)
  have X3 : K.In h3 := X1.keeps k3
  have hx3 := k3 _ _ hx1
  have I3 : InstAt h3 (hp.objs.size + 1) (excObj C hp.objs.size none .none) C none := ⟨hx3, rfl, rfl, trivial⟩
  have hsup := T.sup
  unfold ks_superIn at hsup
  rw [hc] at hsup
  refine kxs_getMethod T.kf hso (looks_opaque X3 T.opq) (l₀ := cd.mro) (fun A Q E s k q => wpAny_bind ((looks_clsIn X3 hc) A _ E s k (wpAny_pure q))) rfl X3 hsup (I3.type.andThen (looks_subIn X3 T.sub)) (ks_ne X3 I3 hc) (by decide) ?_
  have hI3 : Looks (model prog w) h3 (isInstance (.ref (hp.objs.size + 1)) (.type B)) true := I3.type.andThen (looks_subIn X3 T.sub)
  have X4 : K.In (h3.push (kxs_mw initId (hp.objs.size + 1))) := X3.keeps fun b o e => Heap.get?_push_of_some _ e
  have hu : (h3.push (kxs_mw initId (hp.objs.size + 1))).get? h3.objs.size = some (kxs_mw initId (hp.objs.size + 1)) := Heap.get?_push_at rfl rfl
  have hx4 : (h3.push (kxs_mw initId (hp.objs.size + 1))).get? (hp.objs.size + 1) = some (excObj C hp.objs.size none .none) := Heap.get?_push_of_some _ hx3
  have k4 : ∀ b o, h₁.get? b = some o → (h3.push (kxs_mw initId (hp.objs.size + 1))).get? b = some o := fun b o e => Heap.get?_push_of_some _ (k3 b o e)
  generalize hh4 : h3.push (kxs_mw initId (hp.objs.size + 1)) = h4 at X4 hu hx4 k4 ⊢
  refine kxs_callWith (i := initId) (x := hp.objs.size + 1) rfl (evalArgs_plain ?_)
  refine spliced_cons (wpAny_Constant_str (k := j) (pos := p3) ?_)
  refine spliced_nil ⟨hu, ?_⟩
  refine mw_call T.fb X4 T.ini hx4 hu fun h5 k5 e5 => ?_
  have nL : h2.objs.size ≠ hp.objs.size + 1 := by omega
  have kp5 : ∀ b o, h₁.get? b = some o → b ≠ hp.objs.size + 1 → h5.get? b = some o := fun b o e hb => k5 b o hb (k4 b o e)
  have kh5 : ∀ b o, hp.get? b = some o → h5.get? b = some o := fun b o e => kp5 b o (k1 b o e) (Nat.ne_of_lt (Nat.lt_succ_of_lt (Heap.lt_size e)))
  have X5 : K.In h5 := X.keeps kh5
  have hn5 : h5.Ns h2.objs.size (fun y => [(("self" : Str), Value.ref (hp.objs.size + 1)), (f, v)].reverse.lookup y) := by
    obtain ⟨oL, es, ep, hL, r⟩ := hns
    exact ⟨oL, es, ep, kp5 _ _ hL nL, r⟩
  have sz5 : hp.objs.size ≤ h5.objs.size := Nat.le_trans (Nat.le_succ _) (Nat.le_of_lt (Heap.lt_size e5))
  refine ks_wpAt_execs_cons (wpAt_of_wpAny (plainObj_wpAny_Assign_Attribute ?_))
  refine wpAny_Name (wpAny_loadName_local (v := v) rfl n4 hn5 lkF ?_) hdb
  refine wpAny_Name (wpAny_loadName_local (v := .ref (hp.objs.size + 1)) rfl n3 hn5 lkS ?_) (by decide)
  refine set_plain (od := none) X5 ⟨e5, rfl, rfl, trivial⟩ T.sa (osaG T.sf X5 e5 T.ovr T.tak T.hd fun h6 tk6 dx k6 dn dne hx6 hn6 => ?_)
  refine wpAt_of_wpAny (wpAny_execs_nil ?_)
  refine ⟨rfl, hq h6 tk6 (hp.objs.size + 1) dx h4.objs.size (fun b o e => k6 b o (Nat.ne_of_lt (Nat.lt_succ_of_lt (Heap.lt_size e))) (kh5 b o e)) (Nat.le_succ _) (Nat.le_trans sz5 dn) dne hx6 hn6⟩
end
/-! ### by name, and without an __init__ of its own -/
/-- a class whose __init__ is a built-in error's -/
structure X0 (K : Frag) (C : Addr) (B newId initId : String) (bmB : List Value) : Prop where
  fb : ExcBaseFacts B newId initId bmB
  ini : excInitIn K C bmB newId = true
  fi : findIn K (.ref C) "__init__" = some (some (.builtin initId))
  kC : keepIn K (.ref C) = true
section
open PyProof.Rows
variable {X : Cx} {pins : List (Addr × Obj)} {σ : L2.St} {H : Hp} {s : Shared}
theorem xmakeK_in {C : Addr} {f : Str} {B newId initId : String} {bmB : List Value} {k : Nat} {v : V} {u : Value} {Q : Value → Shared → Prop} {E : Value → Shared → Prop} (T : XC X.prog X.K C f B newId initId bmB) (hsup : X.mg "super" = none) (hr : Room (k + 1) X.A) (I : Inv X pins σ H s) (r : RelV v u)
    (h : ∀ (a d : Addr) (t1 : Addr) (G h' : Heap) (tk' : Nat), H a = none → H d = none → d ≠ a → Inv X pins σ (upd H d (.xd [(f, v)])) { s with heap := G, toks := tk' } → (∀ b o, G.get? b = some o → h'.get? b = some o) → G.get? a = none → (upd H d (.xd [(f, v)])) a = none →
      h'.get? a = some (PySem.W.excObj C t1 (some d) .none) → Q (.ref a) { s with heap := h', toks := tk' }) : wpAny (model X.prog X.w) X.A (call (.ref C) [] [(f, u)]) Q E s := by
  refine xmakeK T I.ok.mod hsup (fun b o e => (I.bs b o e).1) hr fun h' tk' a d t1 k ha hd hne he hn => ?_
  have na : H a = none := I.hok.fresh ha
  have nd : H d = none := I.hok.fresh hd
  obtain ⟨G, g1, g2⟩ := restrict h' fun b => decide (b ≠ a)
  have gk : ∀ b, b ≠ a → G.get? b = h'.get? b := fun b hb => g1 b (decide_eq_true hb)
  have ge : G.get? a = none := g2 a (by simp)
  have hG : ∀ b o, G.get? b = some o → h'.get? b = some o := fun b o e => by
    by_cases hb : b = a
    · rw [hb, ge] at e; cases e
    · rw [← gk b hb]; exact e
  have kG : ∀ b o, s.heap.get? b = some o → G.get? b = some o := fun b o e => by
    rw [gk b (Nat.ne_of_lt (Nat.lt_of_lt_of_le (Heap.lt_size e) ha))]
    exact k b o e
  have J := I.laid (t' := tk') (a := d) (o := .xd [(f, v)]) kG hd (xd_ok (hn.at fun o y => (gk d hne).trans y) r)
  exact h a d t1 G h' tk' na nd hne J hG ge (by rw [upd_ne (Ne.symm hne)]; exact na) he
/-- C(f=e) as a value -/
theorem pe_mkk {C : Addr} {f : Str} {B newId initId : String} {bmB : List Value} {k : Nat} {x : Str} {e : Expr} {te : TE} {p pos kp : Pos} (T : XC X.prog X.K C f B newId initId bmB) (hsup : X.mg "super" = none) (hr : Room (k + 1) X.A) (hg : Gl X x) (hm : X.mg x = some (.ref C)) (he : PE X e te)
    (hdb : (x == ("__debug__" : Str)) = false) :
    PE X (.Call (.Name x p) [] [⟨some f, e, kp⟩] pos) (fun σ H Q => te σ H fun v H1 => ∀ a d, H1 a = none → H1 d = none → d ≠ a → Q (.ref a) (upd (upd H1 d (.xd [(f, v)])) a (ExT (.ref C) (some d) a))) := by
  refine ⟨fun pins s σ H Q I h => ?_⟩
  refine wpAny_Call_Name_kw (ld_glob I hg hm ?_ hdb)
  refine PySem.W.callWith_KW0 (h₀ := X.base) I.ok.mod.kin T.kC (by rfl) ?_ (by rfl)
  show wpAny _ _ (evalAll ((do let v ← eval e X.env; standAt pos; pure v) :: [])) _ _ s
  refine wpAny_evalAll_cons (wpAny_bind (thn (he.run pins s σ H _ I h) fun u s1 ⟨v, H1, I1, r1, q1⟩ => wpAny_bind (wpAny_standAt (wpAny_pure ?_))))
  refine wpAny_evalAll_nil ⟨I1.kIn, ?_⟩
  refine xmakeK_in T hsup hr I1 r1 fun a d t1 G h' tk' na nd hne J kG ge n2 ha => ?_
  have J2 := J.laidN (t' := tk') (a := a) (o := ExT (.ref C) (some d) a) kG ge n2 (exT_ok ha ⟨rfl, rfl⟩ rfl)
  exact ⟨.ref a, _, J2, rfl, q1 a d na nd hne⟩
/-- C(e) of a class without its own __init__ -/
theorem pe_mk0 {C : Addr} {B newId initId : String} {bmB : List Value} {x : Str} {e : Expr} {te : TE} {p pos : Pos} (T : X0 X.K C B newId initId bmB) (hg : Gl X x) (hm : X.mg x = some (.ref C)) (he : PE X e te)
    (hdb : (x == ("__debug__" : Str)) = false) (hs : starEach [e] X.env = (false, eval e X.env) :: starEach [] X.env) :
    PE X (.Call (.Name x p) [e] [] pos) (fun σ H Q => te σ H fun v H1 => ∀ a, H1 a = none → Q (.ref a) (upd H1 a (ExT (.ref C) none a))) := by
  refine ⟨fun pins s σ H Q I h => ?_⟩
  refine wpAny_Call_Name_kw (ld_glob I hg hm ?_ hdb)
  refine PySem.W.callWith_K (h₀ := X.base) I.ok.mod.kin T.kC ?_ hs (by rfl)
  rw [hs]
  show wpAny _ _ (spliced ((false, eval e X.env) :: backTo pos (starEach [] X.env))) _ _ s
  refine Calls.spliced_cons (thn (he.run pins s σ H _ I h) fun u s1 ⟨v, H1, I1, r1, q1⟩ => ?_)
  refine Calls.spliced_nil ⟨I1.kIn, ?_⟩
  obtain ⟨nm, N', qn, bs', bm, hdct, sn, sub, ab, col, dd, k0, k1, k2, k3, k5, hC, hT⟩ := excInit_of I1.kIn T.ini
  obtain ⟨hp, g, dr, tk, os⟩ := s1
  refine PySem.W.call_B T.fb hT hC (looks_findIn I1.kIn T.fi) (by show 1 ≤ sizeLine; rw [sizeLine_eq]; omega) fun h' kk e1 _ => ?_
  have ge : hp.get? (hp.objs.size + 1) = none := by
    cases q : hp.get? (hp.objs.size + 1) with
    | none => rfl
    | some o =>
      exact absurd (Heap.lt_size q) (Nat.not_lt_of_le (Nat.le_succ _))
  have na : H1 (hp.objs.size + 1) = none := I1.hok.fresh (Nat.le_succ _)
  have J2 := I1.laidN (t' := tk) (a := hp.objs.size + 1) (o := ExT (.ref C) none (hp.objs.size + 1)) kk ge na (exT_ok e1 ⟨rfl, rfl⟩ rfl)
  exact ⟨.ref (hp.objs.size + 1), _, J2, rfl, q1 _ na⟩
end
end EK

set_option Elab.async false
set_option linter.all false
set_option maxRecDepth 100000
set_option maxHeartbeats 4000000
namespace EK
open PySem L2 PySem.Spec

/-! ### the small language -/
inductive Bf where
  | len | abs | int | max | min | sum | all | any | list | tuple | repr | sorted
  deriving DecidableEq
inductive Mf where
  | join | index | count | split
  deriving DecidableEq
inductive Ik where
  | seq | rng | zip | enm
  deriving DecidableEq
inductive Tg where
  | one (i : Nat) | many (is : List Nat)
  deriving DecidableEq
inductive CE where
  | var (i : Nat) | con (d : D) | glob (x : Str)
  | bin (op : Operator) (a b : CE) | neg (a : CE) | not (a : CE)
  | cmp (op : CmpOp) (a b : CE) | chain (o1 o2 : CmpOp) (a b c : CE)
  | and (a b : CE) | or (a b : CE) | ite (c a b : CE)
  | call (f : Str) (args : List CE)
  | blt (f : Bf) (args : List CE)
  | isi (a : CE) (T : String)
  | mth (m : Mf) (o a : CE)
  | dget (o k d : CE)
  | idx (a b : CE) | sl (a lo hi : CE) | rev (a : CE)
  | tup (es : List CE) | lst (es : List CE) | dic (ks : List Key) (vs : List CE)
  | lc (elt : CE) (tg : Tg) (ik : Ik) (ia : List CE) (cond : CE) (own : List (Str × Nat))
  | fnv (x : Str) | callv (i : Nat) (args : List CE) | tupS (a b : CE)
  | callk (f : Str) (args : List CE)
  | mk (c : Str) (a : CE) | isc (a : CE) (c : Str) | att (a : CE) (f : Str)
  | outc (k : Nat) (nm : List (Str × NameKind)) (ls : Bool) (b : CE)
  | srs (a : CE) | pop (i : Nat) | ned (a b : CE)
  | mkk (c : Str) (f : Str) (a : CE) | mk0 (c : Str) (a : CE) | isb (a : CE) (T : String)
/-- calls whose arguments are told by names, in the parameters' order -/
def kwT : List (Str × List Str) := [("rest_of", ["replacement", "other"]), ("told_by", ["row"])]
/-- what an expression comes to -/
inductive R where
  | ok (d : D) (S : Sto) | ex (c : Str) (d : D) (S : Sto) | bad
inductive RA where
  | ok (ds : List D) (S : Sto) | ex (c : Str) (d : D) (S : Sto) | bad
def R.bind : R → (D → Sto → R) → R
  | .ok d S, k => k d S
  | .ex c d S, _ => .ex c d S
  | .bad, _ => .bad
def RA.bind : RA → (List D → Sto → R) → R
  | .ok d S, k => k d S
  | .ex c d S, _ => .ex c d S
  | .bad, _ => .bad
def R.lift (o : Option D) (S : Sto) : R := match o with
  | some d => .ok d S
  | none => .bad
abbrev Fsem := List D → Sto → R
/-- the errors of the program: field, and under what (0: EvenError, 1: OverflowError, 2: LookupError) -/
def xcT : List (Str × Str × Nat) := [("BadWord", "value", 0), ("BadReplacement", "number", 0), ("BadRow", "number", 0), ("BadNumber", "value", 0), ("BadName", "value", 0), ("BadSurd", "value", 0), ("BadLine", "part", 0), ("BadPaper", "part", 0),
  ("BadText", "line", 0), ("TooLong", "most", 1), ("Nothing", "value", 2)]
def isXc (c : Str) : Bool := (xcT.lookup c).isSome
def fldT (c : Str) : Str := match xcT.lookup c with
  | some (f, _) => f
  | none => ""
/-- whether a class of xcT is under another one, or under EvenError -/
def subT (x c : Str) : Option Bool := match xcT.lookup x with
  | some (_, b) => if x = c then some true else if c = "EvenError" then some (b == 0) else if isXc c = true then some false else none
  | none => if x = "EvenError" then (if c = "EvenError" then some true else if isXc c = true then some false else none) else none
/-- whether a class of xcT, or EvenError, is under a built-in one -/
def subU (x : Str) (T : String) : Option Bool := match xcT.lookup x with
  | some (_, 0) => some (T == "ValueError")
  | some (_, 1) => some (T == "OverflowError")
  | some (_, 2) => some (T == "LookupError")
  | some _ => none
  | none => if x = "EvenError" then some (T == "ValueError") else none
def isFn (c : Str) : Option D → Bool
  | some (.fn y) => decide (y = c)
  | _ => false
@[simp] def bfSem : Bf → List D → Option D
  | .len => lenD
  | .abs => absD
  | .int => intD
  | .max => maxD
  | .min => minD
  | .sum => sumD
  | .all => allD
  | .any => anyD
  | .list => listD
  | .tuple => tupleD
  | .repr => reprD
  | .sorted => sortedD
def bfName : Bf → Str
  | .len => "len"
  | .abs => "abs"
  | .int => "int"
  | .max => "max"
  | .min => "min"
  | .sum => "sum"
  | .all => "all"
  | .any => "any"
  | .list => "list"
  | .tuple => "tuple"
  | .repr => "repr"
  | .sorted => "sorted"
def negD : D → Option D
  | .int i => some (.int (-i))
  | _ => none
def typD : D → Option String
  | .non => some "NoneType"
  | .bl _ => some "bool"
  | .int _ => some "int"
  | .str _ => some "str"
  | .tup _ => some "tuple"
  | .lst _ => some "list"
  | .frz _ => none
  | .dic _ => some "dict"
  | _ => none
def isiD (T : String) (d : D) : Option D := ((typD d).bind fun t => kitB t T).map .bl
def joinD : D → D → Option D
  | .str s, .lst xs => match strsOf xs with
    | some ys => if (ys.map (·.length)).sum + ys.length * s.length ≤ szL then some (.str (TL.joinL s ys)) else none
    | none => none
  | .str s, .tup xs => match strsOf xs with
    | some ys => if (ys.map (·.length)).sum + ys.length * s.length ≤ szL then some (.str (TL.joinL s ys)) else none
    | none => none
  | _, _ => none
def splitD : D → D → Option D
  | .str s, .str t => if t ≠ [] ∧ t.all (· < 256) = true ∧ s.length + 2 ≤ szL then some (.lst ((TL.spl t 0 [] s).map .str)) else none
  | _, _ => none
def indexD : D → D → Option D
  | .lst xs, y => if flatD y = true ∧ xs.all flatD = true then (xs.findIdx? fun x => eqFl x y).map fun j => .int (j : Nat) else none
  | _, _ => none
def countD : D → D → Option D
  | .str s, .str [c] => some (.int (s.count c : Nat))
  | _, _ => none
def mfSem : Mf → D → D → Option D
  | .join => joinD
  | .index => indexD
  | .count => countD
  | .split => splitD
def recvB : Mf → D → Bool
  | .join, .str _ => true
  | .index, .lst _ => true
  | .count, .str _ => true
  | .split, .str _ => true
  | _, _ => false
def isDic : D → Bool
  | .dic _ => true
  | _ => false
def dgetD : D → D → D → Option D
  | .dic es, k, d => (keyD k).map fun q => (getK es q).getD d
  | _, _, _ => none
def nonC : CE → Bool
  | .con .non => true
  | _ => false
def partI (c : CE) (d : D) : Option (Option Int) := if nonC c = true then some none else match d with
  | .int i => some (some i)
  | _ => none
def noLoc : D → Bool
  | .loc _ => false
  | _ => true
/-- what _law_outcome makes of it -/
def sameL (n : Nat) : R → R
  | .ok d S => if S.length = n then .ok d S else .bad
  | .ex c d S => if S.length = n then .ex c d S else .bad
  | .bad => .bad
def outc0 (Fw : Fsem) : R → R
  | .ok d S1 => if noLoc d = true then .ok (.lst [d]) S1 else .bad
  | .ex c d S1 => if isXc c = true then sameL S1.length (Fw [.exc c [d]] S1) else .bad
  | .bad => .bad
def pairs : List D → List D → List D
  | x :: xs, y :: ys => .tup [x, y] :: pairs xs ys
  | _, _ => []
def enumFrom : Nat → List D → List D
  | _, [] => []
  | n, x :: xs => .tup [.int (n : Int), x] :: enumFrom (n + 1) xs
def rngL (lo : Int) (n : Nat) : List D := (List.range n).map fun (i : Nat) => .int (lo + (i : Int))
def rngS (lo c : Int) (n : Nat) : List D := (List.range n).map fun (i : Nat) => .int (lo + (i : Int) * c)
def trips : List D → List D → List D → List D
  | x :: xs, y :: ys, z :: zs => .tup [x, y, z] :: trips xs ys zs
  | _, _, _ => []
/-- the items of a list, a tuple, a text -/
def seqD : D → Option (List D)
  | .lst xs => some xs
  | .frz xs => some xs
  | .tup xs => some xs
  | .str s => some (s.map fun c => .str [c])
  | _ => none
/-- the items that are walked -/
def itD : Ik → List D → Option (List D)
  | .seq, [.lst xs] => some xs
  | .seq, [.frz xs] => some xs
  | .seq, [.tup xs] => some xs
  | .seq, [.str s] => some (s.map fun c => .str [c])
  | .rng, [.int n] => if in62 n = true then some (rngL 0 n.toNat) else none
  | .rng, [.int a, .int b] => if in62 a = true ∧ in62 b = true then some (rngL a (b - a).toNat) else none
  | .rng, [.int a, .int b, .int c] => if c = -1 ∧ in62 a = true ∧ in62 b = true then some (rngS a (-1) (a - b).toNat) else none
  | .zip, [a, b] => match seqD a, seqD b with
    | some xs, some ys => some (pairs xs ys)
    | _, _ => none
  | .zip, [a, b, c] => match seqD a, seqD b, seqD c with
    | some xs, some ys, some zs => some (trips xs ys zs)
    | _, _, _ => none
  | .enm, [a] => match seqD a with
    | some xs => some (enumFrom 0 xs)
    | none => none
  | _, _ => none
@[simp] def setMany : List Nat → List D → Gam → Option Gam
  | [], [], Γ => some Γ
  | i :: is, d :: ds, Γ => setMany is ds (Γ.set i (some d))
  | _, _, _ => none
@[simp] def setTg : Tg → D → Gam → Option Gam
  | .one i, d, Γ => some (Γ.set i (some d))
  | .many is, .tup ds, Γ => setMany is ds Γ
  | .many is, .lst ds, Γ => setMany is ds Γ
  | _, _, _ => none
@[simp] def wipeG (Γ : Gam) : List Nat → Gam
  | [] => Γ
  | v :: vs => (wipeG Γ vs).set v none
/-- a comprehension's turns -/
def lcLoop (cond elt : Gam → Sto → R) (tg : Tg) (Γ : Gam) : List D → List D → Sto → R
  | [], acc, S => .ok (.lst acc) S
  | x :: xs, acc, S => match setTg tg x Γ with
    | none => .bad
    | some Γ' => match cond Γ' S with
      | .ok (.bl true) S1 => match elt Γ' S1 with
        | .ok d S2 => if noLoc d = true then lcLoop cond elt tg Γ xs (acc ++ [d]) S2 else .bad
        | _ => .bad
      | .ok (.bl false) S1 => lcLoop cond elt tg Γ xs acc S1
      | _ => .bad
-- no lambda in it
mutual
def noO : CE → Bool
  | .outc _ _ _ _ => false
  | .bin _ a b => noO a && noO b
  | .neg a => noO a
  | .not a => noO a
  | .cmp _ a b => noO a && noO b
  | .chain _ _ a b c => noO a && (noO b && noO c)
  | .and a b => noO a && noO b
  | .or a b => noO a && noO b
  | .ite a b c => noO a && (noO b && noO c)
  | .call _ as => noOs as
  | .blt _ as => noOs as
  | .isi a _ => noO a
  | .mth _ a b => noO a && noO b
  | .dget a b c => noO a && (noO b && noO c)
  | .idx a b => noO a && noO b
  | .sl a b c => noO a && (noO b && noO c)
  | .rev a => noO a
  | .tup as => noOs as
  | .lst as => noOs as
  | .dic _ as => noOs as
  | .lc a _ _ as b _ => noO a && (noO b && noOs as)
  | .callk _ as => noOs as
  | .callv _ as => noOs as
  | .tupS a b => noO a && noO b
  | .mk _ a => noO a
  | .mkk _ _ a => noO a
  | .mk0 _ a => noO a
  | .isb a _ => noO a
  | .isc a _ => noO a
  | .att a _ => noO a
  | .srs a => noO a
  | .ned a b => noO a && noO b
  | _ => true
def noOs : List CE → Bool
  | [] => true
  | c :: cs => noO c && noOs cs
end
theorem noOs_mem : ∀ {cs : List CE} {c : CE}, noOs cs = true → c ∈ cs → noO c = true
  | c0 :: cs, c, h, m => by
    rw [noOs, Bool.and_eq_true] at h
    rcases List.mem_cons.mp m with e | e
    · rw [e]; exact h.1
    · exact noOs_mem h.2 e
section
variable (Φ : Str → Option Fsem) (G : Str → Option D)
mutual
@[simp] def ev : CE → Gam → Sto → R
  | .var i, Γ, S => match Γ[i]? with
    | some (some d) => .ok d S
    | _ => .bad
  | .con d, _, S => .ok d S
  | .glob x, _, S => .lift (G x) S
  | .bin op a b, Γ, S => (ev a Γ S).bind fun d S1 => (ev b Γ S1).bind fun e S2 => .lift (binD op (vw S2 d) (vw S2 e)) S2
  | .neg a, Γ, S => (ev a Γ S).bind fun d S1 => .lift (negD d) S1
  | .not a, Γ, S => (ev a Γ S).bind fun d S1 => match d with
    | .bl b => .ok (.bl (!b)) S1
    | _ => .bad
  | .cmp op a b, Γ, S => (ev a Γ S).bind fun d S1 => (ev b Γ S1).bind fun e S2 => .lift (cmpD op (vw S2 d) (vw S2 e)) S2
  | .chain o1 o2 a b c, Γ, S => (ev a Γ S).bind fun d S1 => (ev b Γ S1).bind fun e S2 => match cmpD o1 (vw S2 d) (vw S2 e) with
    | some (.bl true) => (ev c Γ S2).bind fun f S3 => .lift (cmpD o2 (vw S3 e) (vw S3 f)) S3
    | some (.bl false) => .ok (.bl false) S2
    | _ => .bad
  | .and a b, Γ, S => (ev a Γ S).bind fun d S1 => match d with
    | .bl true => ev b Γ S1
    | .bl false => .ok (.bl false) S1
    | _ => .bad
  | .or a b, Γ, S => (ev a Γ S).bind fun d S1 => match d with
    | .bl true => .ok (.bl true) S1
    | .bl false => ev b Γ S1
    | _ => .bad
  | .ite c a b, Γ, S => (ev c Γ S).bind fun d S1 => match d with
    | .bl true => ev a Γ S1
    | .bl false => ev b Γ S1
    | _ => .bad
  | .call f args, Γ, S => match Φ f with
    | some F => (evs args Γ S).bind F
    | none => .bad
  | .blt f args, Γ, S => (evs args Γ S).bind fun ds S1 => .lift (bfSem f (ds.map (vw S1))) S1
  | .isi a T, Γ, S => (ev a Γ S).bind fun d S1 => .lift (isiD T d) S1
  | .mth m o a, Γ, S => (ev o Γ S).bind fun d S1 => if recvB m (vw S1 d) = true then (ev a Γ S1).bind fun e S2 => .lift (mfSem m (vw S2 d) (vw S2 e)) S2 else .bad
  | .dget o k x, Γ, S => (ev o Γ S).bind fun d S1 => if isDic (vw S1 d) = true then (ev k Γ S1).bind fun e S2 => (ev x Γ S2).bind fun f S3 => if noLoc f = true then .lift (dgetD (vw S3 d) (vw S3 e) f) S3 else .bad else .bad
  | .idx a b, Γ, S => (ev a Γ S).bind fun d S1 => (ev b Γ S1).bind fun e S2 => .lift (idxD (vw S2 d) (vw S2 e)) S2
  | .sl a lo hi, Γ, S => (ev a Γ S).bind fun d S1 => (ev lo Γ S1).bind fun l S2 => match partI lo l with
    | none => .bad
    | some l' => (ev hi Γ S2).bind fun h S3 => match partI hi h with
      | none => .bad
      | some h' => .lift (slD (vw S3 d) l' h') S3
  | .rev a, Γ, S => (ev a Γ S).bind fun d S1 => .lift (revD (vw S1 d)) S1
  | .tup es, Γ, S => (evs es Γ S).bind fun ds S1 => if ds.all noLoc = true ∧ ds.length ≤ szL then .ok (.tup ds) S1 else .bad
  | .lst es, Γ, S => (evs es Γ S).bind fun ds S1 => if ds.all noLoc = true ∧ ds.length ≤ szL then .ok (.lst ds) S1 else .bad
  | .dic ks vs, Γ, S => (evs vs Γ S).bind fun ds S1 => if ds.all noLoc = true ∧ ds.length = ks.length ∧ ks.length ≤ 15 ∧ ks.Nodup then .ok (.dic (ks.zip ds)) S1 else .bad
  | .fnv x, _, S => match Φ x with
    | some _ => .ok (.fn x) S
    | none => .bad
  | .callk f args, Γ, S => match Φ f with
    | some F => (evs args Γ S).bind F
    | none => .bad
  | .callv i args, Γ, S => match Γ[i]? with
    | some (some (.fn x)) => (match Φ x with
      | some F => (evs args Γ S).bind F
      | none => .bad)
    | _ => .bad
  | .mk c a, Γ, S => if isFn c (G c) = true ∧ isXc c = true then (ev a Γ S).bind fun d S1 => if noLoc d = true then .ok (.exc c [d]) S1 else .bad else .bad
  | .mkk c f a, Γ, S => if (isFn c (G c) = true ∧ isXc c = true) ∧ fldT c = f then (ev a Γ S).bind fun d S1 => if noLoc d = true then .ok (.exc c [d]) S1 else .bad else .bad
  | .mk0 c a, Γ, S => if isFn c (G c) = true ∧ c = "EvenError" then (ev a Γ S).bind fun _ S1 => .ok (.exc c []) S1 else .bad
  | .isb a T, Γ, S => (ev a Γ S).bind fun d S1 => match d with
    | .exc x _ => .lift ((subU x T).map .bl) S1
    | _ => .bad
  | .isc a c, Γ, S => if isFn c (G c) = true then (ev a Γ S).bind fun d S1 => match d with
    | .exc x _ => .lift ((subT x c).map .bl) S1
    | _ => .bad
    else .bad
  | .att a f, Γ, S => (ev a Γ S).bind fun d S1 => match d with
    | .exc x [y] => if isXc x = true ∧ fldT x = f then .ok y S1 else .bad
    | _ => .bad
  | .outc k nm _ b, Γ, S => match Φ "_law_outcome", Φ "_law_word", S[k]? with
    | some _, some Fw, some (.tab nm') => if nm' = nm then outc0 Fw (ev b Γ S) else .bad
    | _, _, _ => .bad
  | .ned a b, Γ, S => (ev a Γ S).bind fun d S1 => (ev b Γ S1).bind fun e S2 => .lift (nedD (vw S2 d) (vw S2 e)) S2
  | .srs a, Γ, S => (ev a Γ S).bind fun d S1 => .lift (srsD (vw S1 d)) S1
  | .pop i, Γ, S => match Γ[i]? with
    | some (some (.loc k)) => (match S[k]? with
      | some (.lst ds) => (match ds.getLast? with
        | some d => .ok d (S.set k (.lst ds.dropLast))
        | none => .bad)
      | _ => .bad)
    | _ => .bad
  | .tupS a b, Γ, S => (ev a Γ S).bind fun d S1 => (ev b Γ S1).bind fun e S2 => match vw S2 e with
    | .tup ys => if noLoc d = true ∧ ys.length + 1 ≤ szL then .ok (.tup (d :: ys)) S2 else .bad
    | _ => .bad
  | .lc elt tg ik ia cond own, Γ, S => (evs ia Γ S).bind fun ds S1 => match itD ik ds with
    | some items => if items.length ≤ szL then lcLoop (ev cond) (ev elt) tg (wipeG Γ (own.map (·.2))) items [] S1 else .bad
    | none => .bad
@[simp] def evs : List CE → Gam → Sto → RA
  | [], _, S => .ok [] S
  | c :: cs, Γ, S => match ev c Γ S with
    | .ok d S1 => match evs cs Γ S1 with
      | .ok ds S2 => .ok (d :: ds) S2
      | .ex c d S => .ex c d S
      | .bad => .bad
    | .ex c d S => .ex c d S
    | .bad => .bad
end
end
end EK

set_option Elab.async false
set_option linter.all false
set_option maxRecDepth 100000
set_option maxHeartbeats 4000000
namespace EK
open PySem L2 PySem.Spec

/-! ### the check: this term of the small language is that expression -/
def visB (sc : Scope) (x : Str) : Bool := match sc.names.lookup x with
  | some .local => true
  | some .cell => true
  | some .free => true
  | _ => false
def glB (sc : Scope) (x : Str) : Bool := match sc.names.lookup x with
  | some .globalImplicit => !(x == ("__debug__" : Str)) && !(x == ("__name__" : Str))
  | _ => false
def varB (sc : Scope) (N : List Str) (i : Nat) (x : Str) : Bool := decide (N[i]? = some x) && visB sc x && !(x == ("__debug__" : Str)) && !(x == ("__classdict__" : Str))
def rlb (scope outer : Scope) : Scope :=
  { scope with names := scope.names.map fun (n, k) => if (k == .free && outer.kind == .function && outer.names.lookup n == some .cell) then (n, .cell) else (n, k) }
def conB : D → Const → Bool
  | .non, .none => true
  | .bl b, .bool c => b == c
  | .int i, .int j => decide (i = j)
  | .str s, .str x => decide (x = ⟨s.toArray⟩)
  | _, _ => false
def keyB : Key → Const → Bool
  | .inl i, .int j => decide (i = j)
  | .inr x, .str y => decide (x = y)
  | _, _ => false
/-- not a display with a star, not a set display -/
def plainB : Expr → Bool
  | .Starred .. => false
  | .Set .. => false
  | .Slice .. => false
  | _ => true
def plainT : Expr → Bool
  | .BoolOp .. => false
  | .UnaryOp .Not .. => false
  | .IfExp .. => false
  | .Compare .. => false
  | _ => true
def notIf : Expr → Bool
  | .IfExp .. => false
  | _ => true
/-- a base of an attribute that is no call super() -/
def baseB : Expr → Bool
  | .Call (.Name _ _) [] [] _ => false
  | _ => true
/-- a name that may be stored: a local one, and, where cl says so, one that is captured -/
def okLoc (cl : Bool) (sc : Scope) (x : Str) : Bool := match sc.names.lookup x with
  | some .local => true
  | some .cell => cl
  | _ => false
def tgsB (cl : Bool) (sc : Scope) (N : List Str) : List Nat → List Expr → Bool
  | [], [] => true
  | i :: is, .Name x _ :: es => decide (N[i]? = some x) && okLoc cl sc x && tgsB cl sc N is es
  | _, _ => false
def tgB (cl : Bool) (sc : Scope) (N : List Str) : Tg → Expr → Bool
  | .one i, .Name x _ => decide (N[i]? = some x) && okLoc cl sc x
  | .many is, .Tuple es _ _ => tgsB cl sc N is es
  | _, _ => false
def tgIs : Tg → List Nat
  | .one i => [i]
  | .many is => is
def keysB : List Key → List (Option Expr) → Bool
  | [], [] => true
  | k :: ks, some (.Constant c _ _) :: r => keyB k c && keysB ks r
  | _, _ => false
section
variable (N : List Str)
mutual
def chk : Scope → CE → Expr → Bool
  | sc, .var i, e => match e with
    | .Name x _ => varB sc N i x
    | _ => false
  | sc, .con d, e => match e with
    | .Constant c _ _ => conB d c
    | _ => false
  | sc, .glob y, e => match e with
    | .Name x _ => decide (x = y) && glB sc x
    | _ => false
  | sc, .bin op a b, e => match e with
    | .BinOp x op' y _ => decide (op = op') && chk sc a x && chk sc b y
    | _ => false
  | sc, .neg a, e => match e with
    | .UnaryOp .USub x _ => chk sc a x
    | _ => false
  | sc, .not a, e => match e with
    | .UnaryOp .Not x _ => notIf x && chk sc a x
    | _ => false
  | sc, .cmp op a b, e => match e with
    | .Compare x [op'] [y] _ => decide (op = op') && plainB y && chk sc a x && chk sc b y
    | _ => false
  | sc, .chain o1 o2 a b c, e => match e with
    | .Compare x [p1, p2] [y, z] _ => decide (o1 = p1) && decide (o2 = p2) && plainB y && plainB z && chk sc a x && chk sc b y && chk sc c z
    | _ => false
  | sc, .and a b, e => match e with
    | .BoolOp .And (x :: y :: []) _ => notIf x && notIf y && chk sc a x && chk sc b y
    | .BoolOp .And (x :: y :: z :: r) p => notIf x && chk sc a x && chk sc b (.BoolOp .And (y :: z :: r) p)
    | _ => false
  | sc, .or a b, e => match e with
    | .BoolOp .Or (x :: y :: []) _ => notIf x && notIf y && chk sc a x && chk sc b y
    | .BoolOp .Or (x :: y :: z :: r) p => notIf x && chk sc a x && chk sc b (.BoolOp .Or (y :: z :: r) p)
    | _ => false
  | sc, .ite c a b, e => match e with
    | .IfExp x y z _ => notIf x && chk sc c x && chk sc a y && chk sc b z
    | _ => false
  | sc, .call f args, e => match e with
    | .Call (.Name x _) (a :: as) [] _ => decide (x = f) && glB sc x && chks sc args (a :: as)
    | .Call (.Name x _) [] [] _ => decide (x = f) && glB sc x && chks sc args []
    | _ => false
  | sc, .blt f args, e => match e with
    | .Call (.Name x _) (a :: as) [] _ => decide (x = bfName f) && glB sc x && chks sc args (a :: as)
    | _ => false
  | sc, .isi a T, e => match e with
    | .Call (.Name x _) [y, .Name t _] [] _ => decide (x = ("isinstance" : Str)) && glB sc x && decide (t = (T : Str)) && glB sc t && decide (T ∈ ["str", "int", "bool", "tuple", "list"]) && plainB y && chk sc a y
    | _ => false
  | sc, .mth m o a, e => match e with
    | .Call (.Attribute x n ap) [y] [] cp => (match m with | .join => decide (n = ("join" : Str)) | .index => decide (n = ("index" : Str)) | .count => decide (n = ("count" : Str)) | .split => decide (n = ("split" : Str))) && baseB x && plainB y && (ap.endLine == cp.line) && chk sc o x && chk sc a y
    | _ => false
  | sc, .dget o k d, e => match e with
    | .Call (.Attribute x n ap) [y, z] [] cp => decide (n = ("get" : Str)) && baseB x && plainB y && plainB z && (ap.endLine == cp.line) && chk sc o x && chk sc k y && chk sc d z
    | _ => false
  | sc, .idx a b, e => match e with
    | .Subscript x y _ => plainB y && chk sc a x && chk sc b y
    | _ => false
  | sc, .sl a lo hi, e => match e with
    | .Subscript x (.Slice l h none _) _ => chk sc a x && (match l with | none => nonC lo | some y => !nonC lo && chk sc lo y) && (match h with | none => nonC hi | some y => !nonC hi && chk sc hi y)
    | _ => false
  | sc, .rev a, e => match e with
    | .Subscript x (.Slice none none (some (.UnaryOp .USub (.Constant (.int 1) _ _) _)) _) _ => chk sc a x
    | _ => false
  | sc, .tup es, e => match e with
    | .Tuple xs _ _ => chks sc es xs
    | _ => false
  | sc, .lst es, e => match e with
    | .List xs _ => chks sc es xs
    | _ => false
  | sc, .dic ks vs, e => match e with
    | .Dict [] [] _ => ks.isEmpty && vs.isEmpty
    | .Dict keys values _ => decide (keys.length ≠ 0) && decide (keys.length = values.length ∧ keys.length ≤ 15) && keysB ks keys && chks sc vs values
    | _ => false
  | sc, .fnv y, e => match e with
    | .Name x _ => decide (x = y) && glB sc x
    | _ => false
  | sc, .callk f args, e => match e with
    | .Call (.Name x _) [] kws _ => decide (x = f) && glB sc x && decide (kwT.lookup x = some (kws.filterMap (·.arg))) && kws.all (·.arg.isSome) && chks sc args (kws.map (·.value))
    | _ => false
  | sc, .callv i args, e => match e with
    | .Call (.Name x _) (a :: as) [] _ => varB sc N i x && chks sc args (a :: as)
    | _ => false
  | sc, .mk c a, e => match e with
    | .Call (.Name x _) [y] [] _ => decide (x = c) && glB sc x && plainB y && chk sc a y
    | _ => false
  | sc, .mkk c f a, e => match e with
    | .Call (.Name x _) [] [⟨some g, y, _⟩] _ => decide (x = c) && glB sc x && decide (g = f) && chk sc a y
    | _ => false
  | sc, .mk0 c a, e => match e with
    | .Call (.Name x _) [y] [] _ => decide (x = c) && glB sc x && plainB y && chk sc a y
    | _ => false
  | sc, .isb a T, e => match e with
    | .Call (.Name x _) [y, .Name t _] [] _ => decide (x = ("isinstance" : Str)) && glB sc x && decide (t = (T : Str)) && glB sc t && decide (T ∈ ["ValueError", "OverflowError", "LookupError"]) && plainB y && chk sc a y
    | _ => false
  | sc, .isc a c, e => match e with
    | .Call (.Name x _) [y, .Name t _] [] _ => decide (x = ("isinstance" : Str)) && glB sc x && decide (t = c) && glB sc t && plainB y && chk sc a y
    | _ => false
  | sc, .att a f, e => match e with
    | .Attribute x n _ => decide (n = f) && baseB x && chk sc a x
    | _ => false
  | sc, .outc _ nm ls b, e => match e with
    | .Call (.Name x _) [.Lambda params body scope _] [] _ => decide (x = ("_law_outcome" : Str)) && glB sc x && decide (sc.names = nm) && lparB ls params && lamB ls N sc scope && noO b && chk scope b body
    | _ => false
  | sc, .ned a b, e => match e with
    | .Compare x [.NotEq] [y] _ => plainB y && chk sc a x && chk sc b y
    | _ => false
  | sc, .srs a, e => match e with
    | .Call (.Name x _) [.Call (.Name y _) [z] [] _] [] _ => decide (x = ("sorted" : Str)) && glB sc x && decide (y = ("set" : Str)) && glB sc y && plainB z && chk sc a z
    | _ => false
  | sc, .pop i, e => match e with
    | .Call (.Attribute (.Name x _) n ap) [] [] cp => decide (n = ("pop" : Str)) && varB sc N i x && (ap.endLine == cp.line)
    | _ => false
  | sc, .tupS a b, e => match e with
    | .Tuple [x, .Starred y _] _ _ => plainB x && plainB y && chk sc a x && chk sc b y
    | _ => false
  | sc, .lc elt tg ik ia cond own, e => match e with
    | .ListComp el [⟨tgt, iter, ifs, 0⟩] scope _ => noO elt && noO cond && plainB iter && blkC N sc scope own && tgB false (rlb scope sc) N tg tgt && (tgIs tg).all (fun i => (own.map (·.2)).contains i) && chk (rlb scope sc) elt el &&
        (match ifs with | [] => (match cond with | .con (.bl true) => true | _ => false) | [c] => notIf c && chk (rlb scope sc) cond c | _ => false) &&
        (match ik with
          | .seq => (match ia with | [a] => chk sc a iter | _ => false)
          | .rng => (match iter with | .Call (.Name x _) xs [] _ => decide (x = ("range" : Str)) && glB sc x && decide (1 ≤ xs.length) && decide (xs.length ≤ 3) && chks sc ia xs | _ => false)
          | .zip => (match iter, tgt with | .Call (.Name x _) [p, q] [] _, .Tuple .. => decide (x = ("zip" : Str)) && glB sc x && chks sc ia [p, q] | .Call (.Name x _) [p, q, r] [] _, .Tuple .. => decide (x = ("zip" : Str)) && glB sc x && chks sc ia [p, q, r] | _, _ => false)
          | .enm => (match iter, tgt with | .Call (.Name x _) [p] [] _, .Tuple .. => decide (x = ("enumerate" : Str)) && glB sc x && chks sc ia [p] | _, _ => false))
    | _ => false
def chks : Scope → List CE → List Expr → Bool
  | _, [], es => es.isEmpty
  | sc, c :: cs, es => match es with
    | e :: es => plainB e && chk sc c e && chks sc cs es
    | [] => false
end
end
end EK

set_option Elab.async false
set_option linter.all false
set_option maxRecDepth 100000
set_option maxHeartbeats 4000000
namespace EK
open PySem L2 PySem.Spec PyProof.Rows
/-! ### calls where no text of a thing is being made (no guard is up) -/
/-- room for k calls, and no guard -/
structure Rm (k : Nat) (A : Around) : Prop where
  rm : Room k A
  gd : A.guards = some []
theorem Rm.mono {j k : Nat} {A : Around} (r : Rm k A) (h : j ≤ k) : Rm j A := ⟨r.rm.mono h, r.gd⟩
/-- the def at f keeps the promise sp where no guard is up -/
structure FnG (P : Program) (w : World) (K : PySem.W.Frag) (mg : Str → Option Value) (base : Heap) (Xc : CXT) (k : Nat) (f : Addr) (fd : FuncData) (ps : List Str) (sp : Sp) : Prop where
  lng : ∀ vs H Q E, sp vs H Q E → vs.length = ps.length
  go : ∀ (A : Around) (outer : List Env) (s : Shared) (H : Hp) (args : Args) (us : List Value) (vs : List V) (Q : VK) (E : XK),
    Rm k A → Env0 P w K mg base A outer s H → BindsTo s fd args (ps.zip us) → Vals vs us → sp vs H Q E →
      codeAny (model P w) A (.call (.ref f) args) (CR Xc outer P w H s Q E) s
section
variable {P : Program} {w : World} {K : PySem.W.Frag} {mg : Str → Option Value} {base : Heap} {Xc : CXT} {j k : Nat} {f : Addr} {fd : FuncData} {ps : List Str} {sp : Sp}
theorem FnG.mono (F : FnG P w K mg base Xc j f fd ps sp) (h : j ≤ k) : FnG P w K mg base Xc k f fd ps sp :=
  ⟨F.lng, fun A outer s H args us vs Q E r => F.go A outer s H args us vs Q E (r.mono h)⟩
theorem FnG.imp {sp' : Sp} (F : FnG P w K mg base Xc k f fd ps sp) (h : ∀ vs H Q E, sp' vs H Q E → sp vs H Q E) : FnG P w K mg base Xc k f fd ps sp' :=
  ⟨fun vs H Q E q => F.lng vs H Q E (h _ _ _ _ q), fun A outer s H args us vs Q E r e b v z => F.go A outer s H args us vs Q E r e b v (h _ _ _ _ z)⟩
/-- a def called, its promise told of the very state -/
theorem _root_.L2.FunD.runS {N : List Str} {x qual : Str} {params : Arguments} {body : List Stmt} {scope : Scope} {dvs : List V} {kws : List (Str × V)} (F : FunD K x qual params body scope dvs kws f fd) (S : FnScope N ps scope)
    {A : Around} {outer : List Env} {s : Shared} {H : Hp} {args : Args} {us : List Value} {vs : List V} {Q : VK} {E : XK} (rr : Rm (k + 1) A) (en : Env0 P w K mg base A outer s H) (bi : BindsTo s fd args (ps.zip us)) (vl : Vals vs us) (hl : vs.length = ps.length)
    (bd : ∀ cdv : Value, (∃ oc od osl, K.lookup f = some ⟨oc, od, .func fd, osl⟩ ∧ fd.code = cdv) → Rm k (A.deeper (envOfC qual scope s.heap.objs.size f cdv)) →
      ∃ t, PSs (cxOf Xc P w K mg base N qual scope f cdv A outer s H E) body t ∧ t { nx := fun _ H' => Q .non H', rt := Q } (start N vs) H) : codeAny (model P w) A (.call (.ref f) args) (CR Xc outer P w H s Q E) s := by
  obtain ⟨oc, od, dV, kV, doc, pm, an, cdv, ct, osl, rfl, lk, hcd, _, _⟩ := F.ex
  have there : K.In s.heap := en.mod.kin.keeps fun b o q => (en.bs b o q).1
  have kinds : ∀ y ∈ ps.zip us, scope.names.lookup y.1 = some .local ∨ (scope.names.lookup y.1 = some .cell ∧ ((cellsFrom (s.heap.objs.size + 1) scope.names []).lookup y.1).isSome = true) := by
    rintro ⟨n, v⟩ hy
    exact (S.par n (List.of_mem_zip hy).1).imp id fun q => ⟨q, PySem.W.cellsFrom_some _ _ _ (.inl q)⟩
  apply codeAny_call_function rr.rm.depth (there _ _ lk) rfl S.co S.gen rfl (PySem.W.codeRec_of there hcd)
  apply bi
  refine wpAny_newFunctionEnv_cells S.kind kinds fun env ee s1 ic => ?_
  cases ee
  refine ⟨Heap.NoLimit.keeps (en.mod.nolimit.keeps fun b o q => (en.bs b o q).1) ic.toInCall.keep, codeAny_func ?_⟩
  obtain ⟨t, pt, rd⟩ := bd cdv ⟨_, _, _, lk, rfl⟩ ⟨rr.rm.deeper _, rr.gd⟩
  have J := inv_start (CX := Xc) (E := E) S rr.rm.hd en hl vl ic
  refine wpAny_mono (pt.run [] s1 (start N vs) H _ J rd) (fun fl s' out => ?_) fun e s' out => out
  match fl, out with
  | .ret u, ⟨v, σ', H', J', rv, q⟩ => exact ⟨v, H', J'.os, J'.bare, J'.base, J'.hok, rv, q⟩
  | .next, ⟨σ', H', J', q⟩ => exact ⟨.non, H', J'.os, J'.bare, J'.base, J'.hok, rfl, q⟩
  | .brk, ⟨_, _, _, q⟩ => exact q.elim
  | .cont, ⟨_, _, _, q⟩ => exact q.elim
/-- the rule for a def: its body's reading -/
theorem _root_.L2.FunD.okG {N : List Str} {x qual : Str} {params : Arguments} {body : List Stmt} {scope : Scope} {dvs : List V} {kws : List (Str × V)} (F : FunD K x qual params body scope dvs kws f fd) (S : FnScope N ps scope)
    (lng : ∀ vs H Q E, sp vs H Q E → vs.length = ps.length)
    (bd : ∀ (cdv : Value) (A : Around) (outer : List Env) (s : Shared) (H : Hp) (vs : List V) (Q : VK) (E : XK), (∃ oc od osl, K.lookup f = some ⟨oc, od, .func fd, osl⟩ ∧ fd.code = cdv) → Rm k (A.deeper (envOfC qual scope s.heap.objs.size f cdv)) → sp vs H Q E →
      ∃ t, PSs (cxOf Xc P w K mg base N qual scope f cdv A outer s H E) body t ∧ t { nx := fun _ H' => Q .non H', rt := Q } (start N vs) H) : FnG P w K mg base Xc (k + 1) f fd ps sp :=
  ⟨lng, fun A outer s H args us vs Q E rr en bi vl z => F.runS S rr en bi vl (lng _ _ _ _ z) fun cdv lk hr => bd cdv A outer s H vs Q E lk hr z⟩
end
section
variable {X : Cx} {Xc : CXT} {k : Nat} {f : Addr} {fd : FuncData} {ps : List Str} {sp : Sp} {E : L2.St → XK} {x : Str} {p pos : Pos} {e : Expr} {es : List Expr} {t : TA}
/-- a callee with this promise runs -/
theorem goG {pins : List (Addr × Obj)} {σ : L2.St} {H : Hp} {s : Shared} {Q : VK} {us : List Value} {vs : List V} (F : FnG X.prog X.w X.K X.mg X.base Xc k f fd ps sp) (hr : Rm k X.A) (hb : Binds X.K fd ps []) (hx : PassesAt Xc X σ (E σ))
    (I : Inv X pins σ H s) (r : Vals vs us) (h : sp vs H Q (E σ)) : wpAny (model X.prog X.w) X.A (call (.ref f) us) (EP X pins σ Q) X.xe s := by
  have lu : us.length = ps.length := r.length ▸ F.lng _ _ _ _ h
  have bb : BindsTo s fd ⟨us, []⟩ (ps.zip us) := by simpa using hb s us I.kIn (by simpa using lu)
  refine wpAny_call (codeAny_mono (F.go X.A X.stack s H ⟨us, []⟩ us vs Q (E σ) hr I.env0 bb r h) ?_)
  intro out s' z
  match out, z with
  | .error e, z => exact hx pins H s e s' I z
  | .ok (.ret u), z => exact I.after z
  | .ok .next, z => exact z.elim
  | .ok .brk, z => exact z.elim
  | .ok .cont, z => exact z.elim
theorem pe_callG (F : FnG X.prog X.w X.K X.mg X.base Xc k f fd ps sp) (hr : Rm k X.A) (hg : Gl X x) (hm : X.mg x = some (.ref f)) (hk : PySem.W.keepIn X.K (.ref f) = true) (hb : Binds X.K fd ps []) (hx : ∀ σ, PassesAt Xc X σ (E σ))
    (ha : PA X (e :: es) t) (hdb : (x == ("__debug__" : Str)) = false) (he : starEach (e :: es) X.env = (false, eval e X.env) :: starEach es X.env) (hpl : (backTo pos (starEach es X.env)).any (·.1) = false) :
    PE X (.Call (.Name x p) (e :: es) [] pos) (tCallS sp E t) := by
  constructor
  intro pins s σ H Q I h
  apply wpAny_Call_Name_kw
  refine ld_glob I hg hm ?_ hdb
  exact PySem.W.callWith_K (h₀ := X.base) I.ok.mod.kin hk (thn (ha.run pos pins s σ H _ I h) fun us s1 ⟨vs, H1, I1, r, q⟩ => ⟨I1.kIn, goG F hr hb (hx σ) I1 r q⟩) he hpl
theorem pe_callG0 (F : FnG X.prog X.w X.K X.mg X.base Xc k f fd ps sp) (hr : Rm k X.A) (hg : Gl X x) (hm : X.mg x = some (.ref f)) (hk : PySem.W.keepIn X.K (.ref f) = true) (hb : Binds X.K fd ps []) (hx : ∀ σ, PassesAt Xc X σ (E σ))
    (hdb : (x == ("__debug__" : Str)) = false) : PE X (.Call (.Name x p) [] [] pos) (tCallS sp E tNil) := by
  constructor
  intro pins s σ H Q I h
  apply wpAny_Call_Name_kw
  refine ld_glob I hg hm ?_ hdb
  exact PySem.W.callWith_K0 I.kIn hk (goG (us := []) F hr hb (hx σ) I .nil h)
/-- how a def takes its arguments by place, and by names where the table has it -/
structure BindsX (K : PySem.W.Frag) (fd : FuncData) (ps : List Str) (x : Str) : Prop where
  b : Binds K fd ps []
  k : ∀ ks, kwT.lookup x = some ks → ∀ (s : Shared) (ws : List Value), K.In s.heap → ws.length = ps.length → BindsTo s fd ⟨[], ks.zip ws⟩ (ps.zip ws)
theorem goGK {pins : List (Addr × Obj)} {σ : L2.St} {H : Hp} {s : Shared} {Q : VK} {us : List Value} {vs : List V} {ks : List Str} (F : FnG X.prog X.w X.K X.mg X.base Xc k f fd ps sp) (hr : Rm k X.A) (hb : ∀ (s : Shared) (ws : List Value), X.K.In s.heap → ws.length = ps.length → BindsTo s fd ⟨[], ks.zip ws⟩ (ps.zip ws)) (hx : PassesAt Xc X σ (E σ))
    (I : Inv X pins σ H s) (r : Vals vs us) (h : sp vs H Q (E σ)) : wpAny (model X.prog X.w) X.A (call (.ref f) [] (ks.zip us)) (EP X pins σ Q) X.xe s := by
  have lu : us.length = ps.length := r.length ▸ F.lng _ _ _ _ h
  refine wpAny_call (codeAny_mono (F.go X.A X.stack s H ⟨[], ks.zip us⟩ us vs Q (E σ) hr I.env0 (hb s us I.kIn lu) r h) ?_)
  intro out s' z
  match out, z with
  | .error e, z => exact hx pins H s e s' I z
  | .ok (.ret u), z => exact I.after z
  | .ok .next, z => exact z.elim
  | .ok .brk, z => exact z.elim
  | .ok .cont, z => exact z.elim
theorem pe_callGK {ks : List Str} {kws : List Keyword} (F : FnG X.prog X.w X.K X.mg X.base Xc k f fd ps sp) (hr : Rm k X.A) (hg : Gl X x) (hm : X.mg x = some (.ref f)) (hk : PySem.W.keepIn X.K (.ref f) = true) (hb : ∀ (s : Shared) (ws : List Value), X.K.In s.heap → ws.length = ps.length → BindsTo s fd ⟨[], ks.zip ws⟩ (ps.zip ws)) (hx : ∀ σ, PassesAt Xc X σ (E σ))
    (hkw : PK X kws t) (hdb : (x == ("__debug__" : Str)) = false) (hall : (backToKw pos (keywordEach kws X.env)).all (·.1.isSome) = true) (hks : (backToKw pos (keywordEach kws X.env)).filterMap (·.1) = ks)
    (hpl : ((backTo pos (starEach [] X.env)).any (·.1) || (backToKw pos (keywordEach kws X.env)).any (·.1.isNone)) = false) :
    PE X (.Call (.Name x p) [] kws pos) (tCallS sp E t) := by
  constructor
  intro pins s σ H Q I h
  apply wpAny_Call_Name_kw
  refine ld_glob I hg hm ?_ hdb
  refine PySem.W.callWith_KW0 (h₀ := X.base) I.ok.mod.kin hk hall (thn (hkw.run pos pins s σ H _ I h) fun us s1 ⟨vs, H1, I1, r, q⟩ => ⟨I1.kIn, ?_⟩) hpl
  rw [hks]
  exact goGK F hr hb (hx σ) I1 r q
/-- a local name that holds one of some defs -/
theorem pe_callVG {J : Addr → Sp → Prop} {i : Nat} (A : ∀ f sp, J f sp → ∃ (fd : FuncData) (ps : List Str) (k : Nat), PySem.W.keepIn X.K (.ref f) = true ∧ Binds X.K fd ps [] ∧ FnG X.prog X.w X.K X.mg X.base Xc k f fd ps sp ∧ Rm k X.A)
    (hN : X.N[i]? = some x) (hv : Vis X.env.scope x) (hx : ∀ σ, PassesAt Xc X σ (E σ)) (ha : PA X (e :: es) t) (hdb : (x == ("__debug__" : Str)) = false) (hcd : (x == ("__classdict__" : Str)) = false)
    (he : starEach (e :: es) X.env = (false, eval e X.env) :: starEach es X.env) (hpl : (backTo pos (starEach es X.env)).any (·.1) = false) :
    PE X (.Call (.Name x p) (e :: es) [] pos) (fun σ H Q => ∃ f sp, σ[i]? = some (some (.ref f)) ∧ J f sp ∧ t σ H fun vs H1 => sp vs H1 Q (E σ)) := by
  constructor
  rintro pins s σ H Q I ⟨f, sp, hs, hJ, ht⟩
  obtain ⟨fd, ps, k, hk, hb, F, hr⟩ := A f sp hJ
  apply wpAny_Call_Name_kw
  refine thn ((pe_var (pos := p) hN hv hdb hcd).run pins s σ H (fun v H1 => v = .ref f ∧ H1 = H) I ⟨.ref f, hs, rfl, rfl⟩) ?_
  rintro u s1 ⟨v, H1, I1, r1, rfl, rfl⟩
  cases r1
  exact PySem.W.callWith_K (h₀ := X.base) I.ok.mod.kin hk (thn (ha.run pos pins s1 σ _ _ I1 ht) fun us s2 ⟨vs, H2, I2, r, q⟩ => ⟨I2.kIn, goG F hr hb (hx σ) I2 r q⟩) he hpl
end
end EK

set_option Elab.async false
set_option linter.all false
set_option maxRecDepth 100000
set_option maxHeartbeats 4000000
namespace EK
open PySem L2 PySem.Spec PyProof.Rows
/-! ### the end of a law over such promises -/
abbrev Law1 (s₁ : Shared) : Result → Shared → Prop := fun r s' => r = .ok (.ret (.bool true)) ∧ OldK s₁.heap s'.heap ∧ s'.os = s₁.os ∧ AllBare s'.gens
section
variable {P : Program} {w : World} {K : PySem.W.Frag} {mg mb : Str → Option Value} {Xc : CXT} {k : Nat} {fa a : Addr} {fd : FuncData} {x : Str} {sp : Sp} {s₁ : Shared} {vs : List Value} {ns : List Int}
theorem law_at {H : Hp} (inK : K.In s₁.heap) (hns : s₁.heap.Ns mainGlobals mg) (nb : s₁.heap.Ns builtinsNs mb) (nbb : ∀ x : Str, x ≠ "__name__" → mb x = bootBuiltins x) (lim : s₁.heap.NoLimit) (g0 : s₁.gens = #[])
    (at_a : s₁.heap.get? a = some { cls := .type "list", data := .seq vs.toArray }) (rr : Rm k callerA) (F : ∀ base : Heap, K.In base → base.Ns mainGlobals mg → FnG P w K mg base Xc k fa fd [x] sp)
    (bnd : ∀ (s : Shared) (u : Value), BindsTo s fd ⟨[u], []⟩ [(x, u)]) (prm : sp [.ref a] H (fun v _ => v = .bl true) fun _ _ _ => False) (calm : ∀ e s', Xc [] H s₁ (fun _ _ _ => False) e s' → False)
    (onl : Only H) (hok : HOk P w H s₁.heap) (just : ∀ b, H b ≠ none → b = a) (away : H a ≠ none → K.lookup a = none) :
    codeAny (model P w) callerA (.call (.ref fa) ⟨[.ref a], []⟩) (Law1 s₁) s₁ := by
  have free : ∀ {b : Addr} {o : Obj} {es : Array DictEntry} {ep : Nat}, s₁.heap.get? b = some o → o.data = .dict es ep → H b = none := by
    intro b o es ep e d
    by_cases n : H b = none
    · exact n
    · have z := just b n
      rw [z, at_a] at e
      cases e
      exact absurd d (fun q => by cases q)
  have names : ∀ {b : Addr} {m : Str → Option Value}, s₁.heap.Ns b m → (hidT s₁.heap H).Ns b m := by
    rintro b m ⟨o, es, ep, e, d, r⟩
    exact ⟨o, es, ep, hidT_get e (free e d), d, r⟩
  have kb : K.In (hidT s₁.heap H) := by
    intro b o e
    refine hidT_get (inK b o e) ?_
    by_cases n : H b = none
    · exact n
    · have z := just b n
      subst z
      rw [away n] at e
      cases e
  obtain ⟨mc, l1, l2⟩ := lim
  have env : Env0 P w K mg (hidT s₁.heap H) callerA [] s₁ H :=
    ⟨rfl, ⟨kb, names hns, ⟨mb, names nb, nbb⟩, ⟨mc, names l1, l2⟩⟩, fun b o e => of_hidT e, Nat.le_of_eq (hidT_size _ _), trivial, (fun b q => by cases (show b ∈ ([] : List Addr) from q)), hok, .of_eq g0⟩
  refine codeAny_mono ((F _ kb (names hns)).go callerA [] s₁ H ⟨[.ref a], []⟩ [.ref a] [.ref a] _ _ rr env (bnd s₁ (.ref a)) (.cons rfl .nil) prm) ?_
  intro r s' out
  match r, out with
  | .error e, out => exact (calm e s' out).elim
  | .ok .next, out => exact out.elim
  | .ok .brk, out => exact out.elim
  | .ok .cont, out => exact out.elim
  | .ok (.ret u), ⟨v, H', os, bare, un, hok', rv, q⟩ =>
    have q : v = .bl true := q
    subst q
    have rv : u = Value.bool true := rv
    subst rv
    refine ⟨rfl, OldK.of_keep ?_, os, bare⟩
    intro b o e
    by_cases n : H b = none
    · exact un.keep b o e n (fun z => by cases (show b ∈ ([] : List Addr) from z)) (by simp)
    · obtain ⟨ob, xs, z⟩ := (onl b).resolve_left n
      have e1 := (hok b _ z).1
      have e2 := (hok' b _ (un.frzs b ob _ z)).1
      rw [e1] at e
      cases e
      exact e2
theorem law_callG (inK : K.In s₁.heap) (hns : s₁.heap.Ns mainGlobals mg) (nb : s₁.heap.Ns builtinsNs mb) (nbb : ∀ x : Str, x ≠ "__name__" → mb x = bootBuiltins x) (lim : s₁.heap.NoLimit) (g0 : s₁.gens = #[])
    (at_a : s₁.heap.get? a = some { cls := .type "list", data := .seq vs.toArray }) (hi : IntsAre vs ns) (hl : ns.length ≤ sizeLine) (rr : Rm k callerA) (F : ∀ base : Heap, K.In base → base.Ns mainGlobals mg → FnG P w K mg base Xc k fa fd [x] sp)
    (bnd : ∀ (s : Shared) (u : Value), BindsTo s fd ⟨[u], []⟩ [(x, u)]) (prm : ∀ H : Hp, Only H → SqL K H a (ns.map V.int) → sp [.ref a] H (fun v _ => v = .bl true) fun _ _ _ => False) (calm : ∀ H e s', Xc [] H s₁ (fun _ _ _ => False) e s' → False) :
    codeAny (model P w) callerA (.call (.ref fa) ⟨[.ref a], []⟩) (Law1 s₁) s₁ := by
  have rv := vals_ints hi
  by_cases c : K.lookup a = none
  · let H0 : Hp := fun b => if b = a then some (.frz { cls := .type "list", data := .seq vs.toArray } (.lst (ns.map V.int))) else none
    have same : H0 a = some (.frz { cls := .type "list", data := .seq vs.toArray } (.lst (ns.map V.int))) := if_pos rfl
    have oth : ∀ b, b ≠ a → H0 b = none := fun b h => if_neg h
    have onl : Only H0 := fun b => by
      by_cases h : b = a
      · rw [h]; exact .inr ⟨_, _, same⟩
      · exact .inl (oth b h)
    refine law_at inK hns nb nbb lim g0 at_a rr F bnd (prm H0 onl (.inl (.inr ⟨_, same⟩))) (calm H0) onl (fun b u z => ?_) (fun b h => ?_) fun _ => c
    · by_cases h : b = a
      · subst h
        rw [same] at z
        cases z
        exact ⟨at_a, by rw [List.length_map]; exact hl, vs, _, rv, at_a⟩
      · rw [oth b h] at z
        cases z
    · by_cases q : b = a
      · exact q
      · exact absurd (oth b q) h
  · obtain ⟨o, c⟩ := Option.ne_none_iff_exists'.mp c
    have e := inK a o c
    rw [at_a] at e
    cases e
    have onl : Only (fun _ => none) := fun _ => .inl rfl
    refine law_at inK hns nb nbb lim g0 at_a rr F bnd (prm _ onl (.inr ⟨_, vs.toArray, _, c, rfl, rfl, rfl, ?_, by simpa using rv⟩)) (calm _) onl (fun b u z => ?_) (fun b h => absurd rfl h) fun h => absurd rfl h
    · rw [List.size_toArray, hi.length]; exact hl
    · have z : (none : Option HO) = some u := z
      cases z
end
/-- a law by the promise of its def -/
theorem walk_ofG {l : PySem.W.OpenLaw} {n k : Nat} {q : Program} {loose : List Str} {XP : (Str → Option Value) → Heap → Prop} {YP : World → Heap → Prop} {d : DefRec} {Xc : CXT} {x : Str}
    (hn : l.most = some n) (hn2 : n ≤ sizeLine) (hdf : d.params.defaults = []) (rr : Rm k callerA)
    (F : ∀ (w : World) (mg : Str → Option Value) (fa : Addr) (h : Heap), YP w h → h.Ns mainGlobals mg → mg d.name = some (.ref fa) → ∃ (K : PySem.W.Frag) (fd : FuncData) (sp : Sp), K.In h ∧
        (∀ (s : Shared) (u : Value), BindsTo s fd ⟨[u], []⟩ [(x, u)]) ∧
        (∀ (H : Hp) (a : Addr) (ns : List Int), ns.length ≤ n → Only H → SqL K H a (ns.map V.int) → sp [.ref a] H (fun v _ => v = .bl true) fun _ _ _ => False) ∧ ∀ base : Heap, K.In base → base.Ns mainGlobals mg → FnG l.prog w K mg base Xc k fa fd [x] sp)
    (calm : ∀ (H : Hp) (s : Shared) (e : Value) (s' : Shared), Xc [] H s (fun _ _ _ => False) e s' → False) : PySem.W.WalkO q loose XP YP l.row.toRowW d [] (fun f vs => PySem.call f vs) := by
  apply Att.attach_call hn hdf
  intro w s₀ s₁ mg mb fa o pm cd doc a vs ns G Y ho hd hcd hmg hobj hints hlen hg
  obtain ⟨K, fd, sp, inK, hb, hsp, hF⟩ := F w mg fa _ Y G.T.g hmg
  exact law_callG inK G.T.g G.T.b G.T.builtins G.T.nolimit hg hobj hints (Nat.le_trans hlen hn2) rr hF hb (fun H onl sq => hsp H a ns hlen onl sq) fun H e s' => calm H s₁ e s'
end EK

set_option Elab.async false
set_option linter.all false
set_option maxRecDepth 100000
set_option maxHeartbeats 4000000
namespace EK
open PySem L2 PySem.Spec PyProof.Rows PySem.W PySem.Calls LamX
section
variable {X : Cx} {pins : List (Addr × Obj)} {σ : L2.St} {H HZ : Hp} {s s1 : Shared}
theorem lam_start3 {A : Around} {outer : List Env} {E : XK} {scope : Scope} {f c' : Addr} {h₁ : Heap} {tk : Nat} {m : Str → Option Value} (I : Inv X pins σ H s) (L : LamS2 X.N X.env.scope scope) (e0 : Env0 X.prog X.w X.K X.mg X.base A outer s1 HZ) (hd : A.handled = none)
    (un : Un (frs X.stack) [] H HZ s.heap s1.heap) (hns : h₁.Ns s1.heap.objs.size m) (kp : ∀ b o, s1.heap.get? b = some o → h₁.get? b = some o) :
    Inv (lamCx X A outer s1 HZ E scope f c') [] σ HZ { s1 with heap := h₁, toks := tk } := by
  have hfree := L.has I.ok
  have cm : ∀ {y c}, (cloFrom X.env.cells scope.names []).lookup y = some c → X.env.cells.lookup y = some c := fun {y c} e => by
    rcases cloFrom_mem (PySem.mem_of_lookup e) with hm | ⟨h1, h2⟩
    · cases hm
    · obtain ⟨c1, hc⟩ := hfree _ h1 rfl
      have hc : X.env.cells.lookup y = some c1 := hc
      have e2 : c = c1 := by
        rw [h2, hc] <;> rfl
      rw [e2]
      exact hc
  have look : ∀ {y}, scope.names.lookup y = some .free → ∃ c, (cloFrom X.env.cells scope.names []).lookup y = some c := fun {y} hl => by
    have hy : (y, NameKind.free) ∈ scope.names := PySem.mem_of_lookup hl
    exact L2.mem_lookup (cloFrom_has (cells := X.env.cells) (acc := []) hy)
  have cellK : ∀ {c : Addr} {v : Option Value}, H c = none → s.heap.IsCell c v → h₁.IsCell c v := fun {c v} n ⟨o, ho, hd⟩ => by
    obtain ⟨sl, q⟩ := un.any ho n (by simp)
    exact ⟨_, kp _ _ q, hd⟩
  have noA : ∀ b : Addr, b ∉ (lamCx X A outer s1 HZ E scope f c').ex := fun b z => absurd (show b ∈ ([] : List Addr) from z) (by simp)
  refine ⟨⟨e0.mod, L.kind, rfl, rfl, Nat.le_refl _, fun y z c e1 e2 => I.ok.inj y z c (cm e1) (cm e2), fun y hy => ?_, fun y c z _ => ?_, fun _ => hd, Around.frames_deeper e0.frames, .inr ⟨rfl, rfl⟩, fun b z => absurd z (noA b), e0.bs, e0.bsz, fun b _ _ => noA b,
      fun b z => absurd z (noA b), e0.funs, e0.frf⟩,
    rfl, e0.bare, Un.kept kp, ⟨_, hns, fun i y v e1 e2 e3 => ?_⟩, fun y c e => ?_, e0.hok.fresh (Nat.le_refl _), fun y c e => ?_, fun q hq => absurd (show q ∈ ([] : List (Addr × Obj)) ++ [] from hq) (by simp), e0.hok.kept kp, I.len⟩
  · have hy : scope.names.lookup y = some .cell ∨ scope.names.lookup y = some .free := hy
    rcases hy with hy | hy
    · exact absurd rfl (L.own _ (PySem.mem_of_lookup hy)).1
    · exact look hy
  · have z : false = true := z
    cases z
  · have e3 : Vis scope y := e3
    rcases e3 with k | k | k
    · exact absurd (List.mem_of_getElem? e1) ((L.own _ (PySem.mem_of_lookup k)).2 rfl)
    · exact absurd rfl (L.own _ (PySem.mem_of_lookup k)).1
    · obtain ⟨m, hn, hl⟩ := I.loc
      have hvis : Vis X.env.scope y := (L.free _ (PySem.mem_of_lookup k) rfl).elim (fun k => .inr (.inl k)) (fun k => .inr (.inr k))
      obtain ⟨w', r, q⟩ := hl i y v e1 e2 hvis
      obtain ⟨c2, h2⟩ := look k
      refine ⟨w', r, .inr ⟨.inr k, c2, h2, ?_⟩⟩
      have c1 := cm h2
      rcases q with ⟨k', _⟩ | ⟨_, c3, e', z⟩
      · have k' : X.env.scope.names.lookup y = some .local := k'
        rcases L.free _ (PySem.mem_of_lookup k) rfl with k2 | k2 <;> rw [show X.env.scope.names.lookup y = _ from k2] at k' <;> cases k'
      · rw [c1] at e'
        cases e'
        exact cellK (I.freeC y _ c1) z
  · obtain ⟨w', z⟩ := I.cell y c (cm e)
    exact ⟨w', cellK (I.freeC y c (cm e)) z⟩
  · obtain ⟨v, o, ho, hd⟩ := I.cell y c (cm e)
    exact un.free c o ho (I.freeC y c (cm e)) (by simp)
/-- the lambda called: its body runs -/
theorem lam_run {f c' : Addr} {dV pm ctv : Value} {params : Arguments} {body : Expr} {scope : Scope} {k : Nat} {ls : Bool} {E : XK} {tb : TE}
    (I : Inv X pins σ H s) (L : LamS2 X.N X.env.scope scope) (hla : ls = true → scope.names.lookup ("_law_a" : Str) = some .local) (hp : lparB ls params = true) (dfl : DflAt ls X H s.heap dV)
    (hf : s.heap.get? f = some (lamO (X.env.qual ++ "<lambda>") params body scope (cloFrom X.env.cells scope.names []) dV pm c' ctv)) (hfn : H f = none) (hfr : f ∉ frs X.stack)
    (hbody : ∀ (A : Around) (outer : List Env) (s : Shared) (H : Hp), Rm k (A.deeper (lamEnv X scope s.heap.objs.size f c')) → PE (lamCx X A outer s H E scope f c') body tb)
    {A : Around} {outer : List Env} {Q : VK} (hr : Rm (k + 1) A) (e0 : Env0 X.prog X.w X.K X.mg X.base A outer s1 HZ) (un : Un (frs X.stack) [] H HZ s.heap s1.heap) (hc : HZ c' = some (CodeO c' (X.env.qual ++ "<lambda>"))) (ht : tb σ HZ Q) :
    codeAny (model X.prog X.w) A (.call (.ref f) ⟨[], []⟩) (CR (L2.CX X.prog X.w) outer X.prog X.w HZ s1 Q E) s1 := by
  have of1 : s1.heap.get? f = some (lamO (X.env.qual ++ "<lambda>") params body scope (cloFrom X.env.cells scope.names []) dV pm c' ctv) := un.keep f _ hf hfn hfr (by simp)
  obtain ⟨⟨oc, vs, t, hoc, hdc, hvc⟩, _, _⟩ := e0.hok c' _ hc
  obtain ⟨binds, hbind, hbl⟩ : ∃ binds : List (Str × Value), BindsTo s1 (lamF (X.env.qual ++ "<lambda>") params body scope (cloFrom X.env.cells scope.names []) dV pm (.ref c') ctv) ⟨[], []⟩ binds ∧ ∀ y ∈ binds, scope.names.lookup y.1 = some .local := by
    unfold lparB at hp
    split at hp
    · have dfl : dV = .none := dfl
      subst dfl
      exact ⟨[], BindsTo.of_eq rfl, fun y hy => by cases hy⟩
    · obtain ⟨dt, tt, e1, e2, e3, e4⟩ := dfl
      subst e1
      have hx := of_decide_eq_true hp
      subst hx
      exact ⟨[(("_law_a" : Str), .int 0 tt)], BindsTo.of_defaults rfl (un.keep dt _ e2 e3 e4 (by simp)) rfl rfl rfl, fun y hy => by
        rw [List.mem_singleton.mp hy]
        exact hla rfl⟩
    · cases hp
  refine PySem.W.kla_callFunE hr.rm.depth of1 rfl L.co L.gen rfl ⟨c', oc, vs, t, rfl, hoc, hdc, hvc⟩ ?_
  refine hbind _ _ _ _ ?_
  refine wpAny_newFunctionEnv (fun y hy => (L.own y hy).1) hbl (fun h₁ hns hsb => ⟨(e0.mod.nolimit.keeps fun b o e => (e0.bs b o e).1).fresh _ hsb, ?_⟩) L.kind
  show codeAny _ _ (.expr body (lamEnv X scope s1.heap.objs.size f c')) _ _
  have kp : ∀ b o, s1.heap.get? b = some o → h₁.get? b = some o := fun b o e => hsb.extBut b o (Nat.ne_of_lt (Heap.lt_size e)) (Heap.get?_push_of_some _ e)
  have J : Inv (lamCx X A outer s1 HZ E scope f c') [] σ HZ { s1 with heap := h₁, toks := s1.toks + binds.length } := lam_start3 I L e0 hr.rm.hd un hns kp
  refine PySem.W.kla_codeExpr (wpAny_mono ((hbody _ _ s1 HZ ⟨hr.rm.deeper _, hr.gd⟩).run [] _ _ HZ Q J ht) (fun v s' hq => ?_) fun e s' hq => hq)
  obtain ⟨w', H', J', rv, q⟩ := hq
  exact ⟨w', H', J'.os, J'.bare, J'.base, J'.hok, rv, q⟩
end
end EK

set_option Elab.async false
set_option linter.all false
set_option maxRecDepth 100000
set_option maxHeartbeats 4000000
namespace EK
open PySem L2 PySem.Spec

/-! ### readings -/
structure RepG (C : Ct) (H : Hp) (ρ : Rg) (σ : L2.St) (Γ : Gam) : Prop where
  len : Γ.length = σ.length
  at_ : ∀ (i : Nat) (d : D), Γ[i]? = some (some d) → ∃ v, σ[i]? = some (some v) ∧ Rep C H ρ v d
section
variable {C : Ct} {W : WX} {H H' : Hp} {ρ ρ' : Rg} {σ : L2.St} {Γ : Gam} {S S' : Sto}
theorem RepG.nx (N : Nx H ρ H' ρ') (p : Pre ρ ρ') (g : RepG C H ρ σ Γ) : RepG C H' ρ' σ Γ :=
  ⟨g.len, fun i d e => by obtain ⟨v, h1, h2⟩ := g.at_ i d e; exact ⟨v, h1, h2.nx N p⟩⟩
theorem RepG.nx0 (N : Nx H ρ H' ρ) (g : RepG C H ρ σ Γ) : RepG C H' ρ σ Γ := g.nx N fun _ _ e => e
theorem RepG.set (g : RepG C H ρ σ Γ) {i : Nat} {v : V} {d : D} (h : Rep C H ρ v d) : RepG C H ρ (σ.set i (some v)) (Γ.set i (some d)) := by
  refine ⟨by simp [g.len], fun j e q => ?_⟩
  by_cases hj : i = j
  · subst hj
    have hl : i < Γ.length := by have := (List.getElem?_eq_some_iff.mp q).1; simpa using this
    rw [List.getElem?_set_self hl] at q
    cases q
    exact ⟨v, List.getElem?_set_self (by rw [← g.len]; exact hl), h⟩
  · rw [List.getElem?_set_ne hj] at q ⊢
    exact g.at_ j e q
theorem RepG.wipe1 (g : RepG C H ρ σ Γ) {i : Nat} : RepG C H ρ (σ.set i none) (Γ.set i none) := by
  refine ⟨by simp [g.len], fun j e q => ?_⟩
  by_cases hj : i = j
  · subst hj
    have hl : i < Γ.length := by have := (List.getElem?_eq_some_iff.mp q).1; simpa using this
    rw [List.getElem?_set_self hl] at q
    cases q
  · rw [List.getElem?_set_ne hj] at q ⊢
    exact g.at_ j e q
theorem RepG.wipe (g : RepG C H ρ σ Γ) : ∀ vs : List Nat, RepG C H ρ (wipe σ vs) (wipeG Γ vs)
  | [] => g
  | v :: vs => (g.wipe vs).wipe1
def Fin (C : Ct) (W : WX) (ρ : Rg) (σ : L2.St) (H : Hp) (Q : VK) : R → Prop
  | .ok d S' => ∀ v H', Nx H ρ H' ρ → StOk C H' ρ S' → Rep C H' ρ v d → Q v H'
  | .ex c d S' => ∀ (Ca dd : Addr) (v : V) (H' : Hp), C.mg c = some (.ref Ca) → Nx H ρ H' ρ → StOk C H' ρ S' → H' dd = some (.xd [(C.fld c, v)]) → dd ∉ ρ → RepD C H' ρ v d → W (.ref Ca) (some dd) σ H'
  | .bad => False
def FinA (C : Ct) (W : WX) (ρ : Rg) (σ : L2.St) (H : Hp) (Q : List V → Hp → Prop) : RA → Prop
  | .ok ds S' => ∀ vs H', Nx H ρ H' ρ → StOk C H' ρ S' → Paired (Rep C H' ρ) vs ds → Q vs H'
  | .ex c d S' => ∀ (Ca dd : Addr) (v : V) (H' : Hp), C.mg c = some (.ref Ca) → Nx H ρ H' ρ → StOk C H' ρ S' → H' dd = some (.xd [(C.fld c, v)]) → dd ∉ ρ → RepD C H' ρ v d → W (.ref Ca) (some dd) σ H'
  | .bad => False
def tDE (C : Ct) (W : WX) (f : Gam → Sto → R) : TE := fun σ H Q => ∃ ρ Γ S, StOk C H ρ S ∧ RepG C H ρ σ Γ ∧ Fin C W ρ σ H Q (f Γ S)
def tDA (C : Ct) (W : WX) (f : Gam → Sto → RA) : TA := fun σ H Q => ∃ ρ Γ S, StOk C H ρ S ∧ RepG C H ρ σ Γ ∧ FinA C W ρ σ H Q (f Γ S)
/-- a test -/
def FinT (C : Ct) (W : WX) (ρ : Rg) (σ : L2.St) (H : Hp) (Q : Bool → Hp → Prop) : R → Prop
  | .ok d S' => ∃ b, d = .bl b ∧ ∀ H', Nx H ρ H' ρ → StOk C H' ρ S' → Q b H'
  | .ex c d S' => ∀ (Ca dd : Addr) (v : V) (H' : Hp), C.mg c = some (.ref Ca) → Nx H ρ H' ρ → StOk C H' ρ S' → H' dd = some (.xd [(C.fld c, v)]) → dd ∉ ρ → RepD C H' ρ v d → W (.ref Ca) (some dd) σ H'
  | .bad => False
def tDT (C : Ct) (W : WX) (f : Gam → Sto → R) : TT := fun σ H Q => ∃ ρ Γ S, StOk C H ρ S ∧ RepG C H ρ σ Γ ∧ FinT C W ρ σ H Q (f Γ S)
theorem Fin.nx {Q : VK} (N : Nx H ρ H' ρ) : ∀ {r : R}, Fin C W ρ σ H Q r → Fin C W ρ σ H' Q r
  | .ok _ _, h => fun v H2 n s r => h v H2 (N.trans n) s r
  | .ex _ _ _, h => fun Ca dd v H2 e n s q nd r => h Ca dd v H2 e (N.trans n) s q nd r
  | .bad, h => h
theorem FinT.nx {Q : Bool → Hp → Prop} (N : Nx H ρ H' ρ) : ∀ {r : R}, FinT C W ρ σ H Q r → FinT C W ρ σ H' Q r
  | .ok _ _, ⟨b, e, h⟩ => ⟨b, e, fun H2 n s => h H2 (N.trans n) s⟩
  | .ex _ _ _, h => fun Ca dd v H2 e n s q nd r => h Ca dd v H2 e (N.trans n) s q nd r
  | .bad, h => h
/-- one expression, then the rest -/
theorem tDE_bind {f : Gam → Sto → R} {k : D → Sto → R} {Q Q' : VK} (st : StOk C H ρ S) (rg : RepG C H ρ σ Γ) (h : Fin C W ρ σ H Q ((f Γ S).bind k))
    (hk : ∀ d S' v H', Nx H ρ H' ρ → StOk C H' ρ S' → Rep C H' ρ v d → RepG C H' ρ σ Γ → Fin C W ρ σ H' Q (k d S') → Q' v H') : tDE C W f σ H Q' := by
  refine ⟨ρ, Γ, S, st, rg, ?_⟩
  cases e : f Γ S with
  | ok d S' => rw [e] at h; exact fun v H' n s r => hk d S' v H' n s r (rg.nx0 n) (Fin.nx n h)
  | ex c d S' => rw [e] at h; exact h
  | bad => rw [e] at h; exact h
theorem tDE_bindT {f : Gam → Sto → R} {k : D → Sto → R} {Q : Bool → Hp → Prop} {Q' : VK} (st : StOk C H ρ S) (rg : RepG C H ρ σ Γ) (h : FinT C W ρ σ H Q ((f Γ S).bind k))
    (hk : ∀ d S' v H', Nx H ρ H' ρ → StOk C H' ρ S' → Rep C H' ρ v d → RepG C H' ρ σ Γ → FinT C W ρ σ H' Q (k d S') → Q' v H') : tDE C W f σ H Q' := by
  refine ⟨ρ, Γ, S, st, rg, ?_⟩
  cases e : f Γ S with
  | ok d S' => rw [e] at h; exact fun v H' n s r => hk d S' v H' n s r (rg.nx0 n) (FinT.nx n h)
  | ex c d S' => rw [e] at h; exact h
  | bad => rw [e] at h; exact h
theorem tDA_bind {f : Gam → Sto → RA} {k : List D → Sto → R} {Q : VK} {Q' : List V → Hp → Prop} (st : StOk C H ρ S) (rg : RepG C H ρ σ Γ) (h : Fin C W ρ σ H Q ((f Γ S).bind k))
    (hk : ∀ ds S' vs H', Nx H ρ H' ρ → StOk C H' ρ S' → Paired (Rep C H' ρ) vs ds → RepG C H' ρ σ Γ → Fin C W ρ σ H' Q (k ds S') → Q' vs H') : tDA C W f σ H Q' := by
  refine ⟨ρ, Γ, S, st, rg, ?_⟩
  cases e : f Γ S with
  | ok d S' => rw [e] at h; exact fun v H' n s r => hk d S' v H' n s r (rg.nx0 n) (Fin.nx n h)
  | ex c d S' => rw [e] at h; exact h
  | bad => rw [e] at h; exact h
/-- a test first -/
theorem tDT_bind {f : Gam → Sto → R} {k : D → Sto → R} {Q : VK} {Q' : Bool → Hp → Prop} (st : StOk C H ρ S) (rg : RepG C H ρ σ Γ) (h : Fin C W ρ σ H Q ((f Γ S).bind k)) (hb : ∀ d S', k d S' ≠ .bad → ∃ b, d = .bl b)
    (hk : ∀ b S' H', Nx H ρ H' ρ → StOk C H' ρ S' → RepG C H' ρ σ Γ → Fin C W ρ σ H' Q (k (.bl b) S') → Q' b H') : tDT C W f σ H Q' := by
  refine ⟨ρ, Γ, S, st, rg, ?_⟩
  cases e : f Γ S with
  | ok d S' =>
    rw [e] at h
    obtain ⟨b, rfl⟩ := hb d S' (fun z => by have h : Fin C W ρ σ H Q (k d S') := h; rw [z] at h; exact h)
    exact ⟨b, rfl, fun H' n s => hk b S' H' n s (rg.nx0 n) (Fin.nx n h)⟩
  | ex c d S' => rw [e] at h; exact h
  | bad => rw [e] at h; exact h
theorem tDT_bindT {f : Gam → Sto → R} {k : D → Sto → R} {Q Q' : Bool → Hp → Prop} (st : StOk C H ρ S) (rg : RepG C H ρ σ Γ) (h : FinT C W ρ σ H Q ((f Γ S).bind k)) (hb : ∀ d S', k d S' ≠ .bad → ∃ b, d = .bl b)
    (hk : ∀ b S' H', Nx H ρ H' ρ → StOk C H' ρ S' → RepG C H' ρ σ Γ → FinT C W ρ σ H' Q (k (.bl b) S') → Q' b H') : tDT C W f σ H Q' := by
  refine ⟨ρ, Γ, S, st, rg, ?_⟩
  cases e : f Γ S with
  | ok d S' =>
    rw [e] at h
    obtain ⟨b, rfl⟩ := hb d S' (fun z => by have h : FinT C W ρ σ H Q (k d S') := h; rw [z] at h; exact h)
    exact ⟨b, rfl, fun H' n s => hk b S' H' n s (rg.nx0 n) (FinT.nx n h)⟩
  | ex c d S' => rw [e] at h; exact h
  | bad => rw [e] at h; exact h
theorem paired_vw {vs : List V} {ds : List D} (s : StOk C H ρ S) : Paired (Rep C H ρ) vs ds → Paired (VwR C H ρ) vs (ds.map (vw S))
  | .nil => .nil
  | .cons h r => .cons (h.vw s) (paired_vw s r)
theorem paired_nx {vs : List V} {ds : List D} (N : Nx H ρ H' ρ) : Paired (Rep C H ρ) vs ds → Paired (Rep C H' ρ) vs ds
  | .nil => .nil
  | .cons h r => .cons (h.nx0 N) (paired_nx N r)
theorem Rep.d {v : V} {d : D} (h : Rep C H ρ v d) (n : noLoc d = true) : RepD C H ρ v d := by
  rcases h with h | ⟨k, a, rfl, _, _⟩
  · exact h
  · cases n
theorem paired_d : ∀ {vs : List V} {ds : List D}, Paired (Rep C H ρ) vs ds → ds.all noLoc = true → RepA C H ρ vs ds
  | _, _, .nil, _ => .nil
  | _, _, .cons h r, e => by
    rw [List.all_cons, Bool.and_eq_true] at e
    exact .cons (h.d e.1) (paired_d r e.2)
end

/-! ### where one stands -/
def bltNames : List Str := ["len", "abs", "int", "max", "min", "sum", "all", "any", "list", "tuple", "isinstance", "str", "bool", "range", "zip", "enumerate", "repr", "sorted", "set", "dict", "super", "ValueError", "OverflowError", "LookupError"]
def spD (C : Ct) (F : Fsem) : Sp := fun vs H Q E => ∃ ds ρ S, StOk C H ρ S ∧ Paired (Rep C H ρ) vs ds ∧ Fin C (fun c d _ H => E c d H) ρ [] H Q (F ds S)
/-- what is known of an error's class -/
structure XcK (prog : Program) (K : PySem.W.Frag) (C : Addr) (f : Str) : Prop where
  xc : ∃ B newId initId bmB, XC prog K C f B newId initId bmB
  ec : ExcC K C
  xf : XfC K C
  no : PySem.W.findIn K (.ref C) f = some none
/-- what is known of EvenError -/
structure EvK (K : PySem.W.Frag) (C : Addr) : Prop where
  x0 : ∃ B newId initId bmB, X0 K C B newId initId bmB
  ec : ExcC K C
/-- what is under what -/
structure SubA (K : PySem.W.Frag) (mg : Str → Option Value) : Prop where
  own : ∀ x c b Ca Cb, subT x c = some b → mg x = some (.ref Ca) → mg c = some (.ref Cb) → PySem.W.kitOne K (.ref Ca) (.ref Cb) = some b
  bt : ∀ x T b Ca, T ∈ ["ValueError", "OverflowError", "LookupError"] → subU x T = some b → mg x = some (.ref Ca) → PySem.W.kitOne K (.ref Ca) (.type T) = some b
  ev : ∀ Ca, mg "EvenError" = some (.ref Ca) → EvK K Ca
structure At (X : Cx) (C : Ct) (Φ : Str → Option Fsem) (G : Str → Option D) (W : WX) : Prop where
  hK : X.K = C.K
  hmg : X.mg = C.mg
  calm : X.calm = true
  nd : X.N.Nodup
  units : X.A.units + 65 < cLine
  blt : ∀ x, x ∈ bltNames → X.mg x = none
  glob : ∀ x d, G x = some d → ∃ u v, X.mg x = some u ∧ RelV v u ∧ ∀ H ρ, RepD C H ρ v d
  fns : ∀ x F, Φ x = some F → ∃ (f : Addr) (fd : FuncData) (ps : List Str) (k : Nat), X.mg x = some (.ref f) ∧ PySem.W.keepIn X.K (.ref f) = true ∧ BindsX X.K fd ps x ∧
    FnG X.prog X.w X.K X.mg X.base (L2.CX X.prog X.w) k f fd ps (spD C F) ∧ Rm k X.A
  gd : X.A.guards = some []
  tabs : Tabs X.K X.w C
  rm : Rm 1 X.A
  xcs : ∀ c r Ca, xcT.lookup c = some r → X.mg c = some (.ref Ca) → XcK X.prog X.K Ca r.1
  sub : SubA X.K X.mg
  fld : C.fld = fldT
  sm : SmK C.K
  tk : Takes X W
/-- a call without arguments that comes to R0, from the store S on -/
def Thunk (P : Program) (w : World) (C : Ct) (base : Heap) (m : Nat) (f : Addr) (ρ : Rg) (S : Sto) (R0 : R) (outer : List Env) (s : Shared) (H : Hp) : Prop :=
  ∀ (A' : Around) (outer' : List Env) (s1 : Shared) (HZ : Hp) (Q' : VK) (E' : XK), Rm m A' → Env0 P w C.K C.mg base A' outer' s1 HZ → Un (frs outer) [] H HZ s.heap s1.heap → Nx H ρ HZ ρ → StOk C HZ ρ S →
    Fin C (fun c d _ H => E' c d H) ρ [] HZ Q' R0 → codeAny (model P w) A' (.call (.ref f) ⟨[], []⟩) (CR (L2.CX P w) outer' P w HZ s1 Q' E') s1
/-- the promise of _law_outcome, its errors told by Fw -/
structure OutP (P : Program) (w : World) (C : Ct) (base : Heap) (k : Nat) (Fw : Fsem) : Prop where
  ex : ∃ (g : Addr) (fd : FuncData), C.mg "_law_outcome" = some (.ref g) ∧ PySem.W.keepIn C.K (.ref g) = true ∧ Binds C.K fd ["_law_call"] [] ∧
    ∀ (m : Nat) (A : Around) (outer : List Env) (s : Shared) (H : Hp) (args : Args) (f : Addr) (ρ : Rg) (S : Sto) (R0 : R) (Q : VK) (E : XK), k ≤ m → Rm (m + 1) A → Env0 P w C.K C.mg base A outer s H → BindsTo s fd args ([("_law_call" : Str)].zip [.ref f]) →
      (∃ (qual : Str) (params : Arguments) (body : Expr) (scope : Scope) (cl : List (Str × Addr)) (dV pm ctv : Value) (c' : Addr), s.heap.get? f = some (lamO qual params body scope cl dV pm c' ctv)) → H f = none → f ∉ frs outer →
      Thunk P w C base m f ρ S R0 outer s H → StOk C H ρ S → Fin C (fun c d _ H => E c d H) ρ [] H Q (outc0 Fw R0) → codeAny (model P w) A (.call (.ref g) args) (CR (L2.CX P w) outer P w H s Q E) s
/-- what a frame with lambdas knows -/
def LamF (X : Cx) (C : Ct) (Φ : Str → Option Fsem) : Prop := ∀ P q, C.tb X.env.scope.names = some (P, q) → q = X.env.qual ++ "<lambda>" ∧ ∃ (c : Addr) (k : Nat), 1 ≤ k ∧ X.env.code = .ref c ∧ LamX.TabB X.base X.mg c P ∧ Rm (k + 2) X.A ∧
  (∀ x F, Φ x = some F → ∃ (f : Addr) (fd : FuncData) (ps : List Str), X.mg x = some (.ref f) ∧ PySem.W.keepIn X.K (.ref f) = true ∧ BindsX X.K fd ps x ∧ FnG X.prog X.w X.K X.mg X.base (L2.CX X.prog X.w) k f fd ps (spD C F)) ∧
  ∀ Fo Fw, Φ "_law_outcome" = some Fo → Φ "_law_word" = some Fw → OutP X.prog X.w C X.base k Fw
theorem At.blk {X : Cx} {C : Ct} {Φ : Str → Option Fsem} {G : Str → Option D} {W : WX} (a : At X C Φ G W) (s : Shared) (H : Hp) (scope : Scope) (cenv : Env) (fp : List Addr) : At (X.blk s H scope cenv fp) C Φ G (fun _ _ _ _ => False) :=
  ⟨a.hK, a.hmg, a.calm, a.nd, a.units, a.blt, a.glob, a.fns, a.gd, a.tabs, a.rm, a.xcs, a.sub, a.fld, a.sm, takes0⟩
theorem star_of {e : Expr} {es : List Expr} {env : Env} (h : plainB e = true) : starEach (e :: es) env = (false, eval e env) :: starEach es env := by
  cases e <;> first | rfl | cases h
theorem plain_ix {b : Expr} (h : plainB b = true) : PlainIx b := by
  intro o i
  cases b <;> first | rfl | cases h
theorem nomark_of {b : Expr} {op : CmpOp} (h : plainB b = true) : behindInMarks op b = false := by
  cases b <;> first | rfl | cases h
theorem folded_of {e : Expr} {env : Env} (h : plainB e = true) : ∀ x, foldedSetIterable e env x = pure x := by
  intro x
  cases e <;> first | rfl | cases h
theorem base_of {e : Expr} {n : Str} {env : Env} (h : baseB e = true) : attributeBase e n env (eval e env) = eval e env := by
  unfold baseB at h
  split at h
  · cases h
  · rename_i hn
    cases e with
    | Call f as ks p =>
      cases f with
      | Name x q =>
        cases as with
        | nil => cases ks with
          | nil => exact absurd rfl (hn _ _ _)
          | cons _ _ => rfl
        | cons _ _ => rfl
      | _ => rfl
    | _ => rfl
theorem plainT_of {e : Expr} {env : Env} (h : plainT e = true) : ∀ whole, isTrue e env whole = (do let v ← whole; standAt e.pos; holding [v] (truthy v)) := by
  intro w
  cases e with
  | UnaryOp op x p => cases op <;> first | rfl | cases h
  | _ => first | rfl | cases h
end EK

set_option Elab.async false
set_option linter.all false
set_option maxRecDepth 100000
set_option maxHeartbeats 4000000
namespace EK
open PySem L2 PySem.Spec
theorem _root_.L2.PE.mono {X : Cx} {e : Expr} {t t' : TE} (h : PE X e t) (i : ∀ σ H Q, t' σ H Q → t σ H Q) : PE X e t' := ⟨fun pins s σ H Q I q => h.run pins s σ H Q I (i σ H Q q)⟩
theorem _root_.L2.PT.mono {X : Cx} {e : Expr} {t t' : TT} (h : PT X e t) (i : ∀ σ H Q, t' σ H Q → t σ H Q) : PT X e t' := ⟨fun pins s σ H Q I q => h.run pins s σ H Q I (i σ H Q q)⟩
theorem _root_.L2.PW.mono {X : Cx} {e : Expr} {t t' : TT} (h : PW X e t) (i : ∀ σ H Q, t' σ H Q → t σ H Q) : PW X e t' := ⟨fun w pins s σ H Q I q => h.run w pins s σ H Q I (i σ H Q q)⟩
theorem _root_.L2.PA.mono {X : Cx} {e : List Expr} {t t' : TA} (h : PA X e t) (i : ∀ σ H Q, t' σ H Q → t σ H Q) : PA X e t' := ⟨fun p pins s σ H Q I q => h.run p pins s σ H Q I (i σ H Q q)⟩
section
variable {X : Cx} {C : Ct} {Φ : Str → Option Fsem} {G : Str → Option D} {W : WX} {e : Expr} {f : Gam → Sto → R} {t : TE}
theorem Rep.bl {H : Hp} {ρ : Rg} {v : V} {b : Bool} (h : Rep C H ρ v (.bl b)) : v = .bl b := by
  rcases h with h | ⟨_, _, z, _⟩
  · cases h; rfl
  · cases z
theorem tDT_tDE {σ : L2.St} {H : Hp} {Q : Bool → Hp → Prop} (h : tDT C W f σ H Q) : tDE C W f σ H (fun x H' => ∃ k, x = .bl k ∧ Q k H') := by
  obtain ⟨ρ, Γ, S, st, rg, h⟩ := h
  refine ⟨ρ, Γ, S, st, rg, ?_⟩
  cases e : f Γ S with
  | ok d S' =>
    rw [e] at h
    obtain ⟨b, rfl, h⟩ := h
    exact fun v H' n s r => ⟨b, r.bl, h H' n s⟩
  | ex c d S' => rw [e] at h; exact h
  | bad => rw [e] at h; exact h
theorem pt_plain (h : PE X e (tDE C W f)) (hp : plainT e = true) : PT X e (tDT C W f) := (pt_val h (plainT_of hp)).mono fun _ _ _ q => tDT_tDE q
/-- what is shown of each term -/
def Good (X : Cx) (C : Ct) (W : WX) (e : Expr) (f : Gam → Sto → R) : Prop :=
  PE X e (tDE C W f) ∧ (notIf e = true → PT X e (tDT C W f)) ∧ ∀ op vs p, e = .BoolOp op vs p → PW X e (tDT C W f)
theorem good_plain (h : PE X e (tDE C W f)) (hp : plainT e = true) : Good X C W e f :=
  ⟨h, fun _ => pt_plain h hp, fun op vs p z => by subst z; cases hp⟩
theorem lift_fin {ρ : Rg} {σ : L2.St} {H : Hp} {Q : VK} {o : Option D} {S : Sto} (h : Fin C W ρ σ H Q (.lift o S)) : ∃ d, o = some d ∧ ∀ v H', Nx H ρ H' ρ → StOk C H' ρ S → RepD C H' ρ v d → Q v H' := by
  cases o with
  | none => exact h.elim
  | some d => exact ⟨d, rfl, fun v H' n s r => h v H' n s (.inl r)⟩
theorem g_var (a : At X C Φ G W) {i : Nat} (h : chk X.N X.env.scope (.var i) e = true) : Good X C W e (ev Φ G (.var i)) := by
  rw [chk.eq_def] at h
  dsimp only at h
  split at h
  · rename_i x p
    unfold varB at h
    rw [Bool.and_eq_true, Bool.and_eq_true, Bool.and_eq_true, decide_eq_true_iff] at h
    obtain ⟨⟨⟨h1, h2⟩, h3⟩, h4⟩ := h
    have hv : Vis X.env.scope x := by
      unfold visB at h2
      split at h2
      · exact .inl (by assumption)
      · exact .inr (.inl (by assumption))
      · exact .inr (.inr (by assumption))
      · cases h2
    refine good_plain ((pe_var (pos := p) h1 hv (by simpa using h3) (by simpa using h4)).mono fun σ H Q q => ?_) rfl
    obtain ⟨ρ, Γ, S, st, rg, q⟩ := q
    rw [ev] at q
    split at q
    · rename_i d hd
      obtain ⟨v, e1, e2⟩ := rg.at_ i d hd
      exact ⟨v, e1, q v H (Nx.refl H ρ) st e2⟩
    · exact q.elim
  · cases h
theorem g_con (a : At X C Φ G W) {d : D} (h : chk X.N X.env.scope (.con d) e = true) : Good X C W e (ev Φ G (.con d)) := by
  rw [chk.eq_def] at h
  dsimp only at h
  split at h
  · rename_i c k p
    have key : ∀ {v : V}, (∀ H ρ, RepD C H ρ v d) → PE X (.Constant c k p) (tC v) → Good X C W (.Constant c k p) (ev Φ G (.con d)) := fun {v} hr hp =>
      good_plain (hp.mono fun σ H Q q => by
        obtain ⟨ρ, Γ, S, st, rg, q⟩ := q
        rw [ev] at q
        exact q v H (Nx.refl H ρ) st (.inl (hr H ρ))) rfl
    unfold conB at h
    split at h
    · exact key (fun _ _ => .non) pe_non
    · rw [beq_iff_eq] at h; subst h; exact key (fun _ _ => .bl _) pe_bl
    · rw [decide_eq_true_iff] at h; subst h; exact key (fun _ _ => .int _) pe_int
    · rw [decide_eq_true_iff] at h; subst h; exact key (fun _ _ => .str _) pe_str
    · cases h
  · cases h
theorem gl_of {x : Str} (h : glB X.env.scope x = true) : Gl X x ∧ (x == ("__debug__" : Str)) = false ∧ x ≠ "__name__" := by
  unfold glB at h
  split at h
  · rename_i hx
    rw [Bool.and_eq_true] at h
    exact ⟨hx, by simpa using h.1, by simpa using h.2⟩
  · cases h
theorem g_glob (a : At X C Φ G W) {y : Str} (h : chk X.N X.env.scope (.glob y) e = true) : Good X C W e (ev Φ G (.glob y)) := by
  rw [chk.eq_def] at h
  dsimp only at h
  split at h
  · rename_i x p
    rw [Bool.and_eq_true, decide_eq_true_iff] at h
    obtain ⟨rfl, h2⟩ := h
    obtain ⟨g1, g2, g3⟩ := gl_of h2
    cases hd : G x with
    | none =>
      refine good_plain ⟨fun pins s σ H Q I q => ?_⟩ rfl
      obtain ⟨ρ, Γ, S, st, rg, q⟩ := q
      rw [ev, hd] at q
      exact q.elim
    | some d =>
      obtain ⟨u, v, hm, hr, hd2⟩ := a.glob x d hd
      refine good_plain ((pe_glob (pos := p) g1 hm hr g2).mono fun σ H Q q => ?_) rfl
      obtain ⟨ρ, Γ, S, st, rg, q⟩ := q
      rw [ev, hd] at q
      exact q v H (Nx.refl H ρ) st (.inl (hd2 H ρ))
  · cases h
/-- two operands, a rule of values -/
theorem two_imp {fa fb : Gam → Sto → R} {g : D → D → Option D} {σ : L2.St} {H : Hp} {Q : VK} (q : tDE C W (fun Γ S => (fa Γ S).bind fun d S1 => (fb Γ S1).bind fun e S2 => .lift (g (vw S2 d) (vw S2 e)) S2) σ H Q) :
    tOp (rP2 C g) (tDE C W fa) (tDE C W fb) σ H Q := by
  obtain ⟨ρ, Γ, S, st, rg, q⟩ := q
  refine tDE_bind st rg q fun d S1 x H1 n1 s1 r1 rg1 q1 => ?_
  refine tDE_bind s1 rg1 q1 fun e S2 y H2 n2 s2 r2 rg2 q2 => ?_
  obtain ⟨z, hz, q3⟩ := lift_fin q2
  exact ⟨ρ, S2, _, _, z, s2, (r1.nx0 n2).vw s2, r2.vw s2, hz, q3⟩
theorem and2 {a b : Bool} (h : (a && b) = true) : a = true ∧ b = true := Bool.and_eq_true_iff.mp h
theorem g_bin (a : At X C Φ G W) {op : Operator} {c1 c2 : CE} (h : chk X.N X.env.scope (.bin op c1 c2) e = true) (i1 : ∀ e, chk X.N X.env.scope c1 e = true → Good X C W e (ev Φ G c1)) (i2 : ∀ e, chk X.N X.env.scope c2 e = true → Good X C W e (ev Φ G c2)) :
    Good X C W e (ev Φ G (.bin op c1 c2)) := by
  rw [chk.eq_def] at h
  dsimp only at h
  split at h
  · rename_i x op' y p
    obtain ⟨h, h3⟩ := and2 h
    obtain ⟨h1, h2⟩ := and2 h
    rw [decide_eq_true_iff] at h1
    subst h1
    refine good_plain ((pe_op (op_binP a.hK op) (i1 x h2).1 (i2 y h3).1).mono fun σ H Q q => two_imp ?_) rfl
    obtain ⟨ρ, Γ, S, st, rg, q⟩ := q
    rw [ev] at q
    exact ⟨ρ, Γ, S, st, rg, q⟩
  · cases h
theorem g_cmp (a : At X C Φ G W) {op : CmpOp} {c1 c2 : CE} (h : chk X.N X.env.scope (.cmp op c1 c2) e = true) (i1 : ∀ e, chk X.N X.env.scope c1 e = true → Good X C W e (ev Φ G c1)) (i2 : ∀ e, chk X.N X.env.scope c2 e = true → Good X C W e (ev Φ G c2)) :
    Good X C W e (ev Φ G (.cmp op c1 c2)) := by
  rw [chk.eq_def] at h
  dsimp only at h
  split at h
  · rename_i x op' y p
    obtain ⟨h, h3⟩ := and2 h
    obtain ⟨h, h2⟩ := and2 h
    obtain ⟨h1, h4⟩ := and2 h
    rw [decide_eq_true_iff] at h1
    subst h1
    have imp : ∀ σ H Q, tDE C W (ev Φ G (.cmp op c1 c2)) σ H Q → tOp (rP2 C (cmpD op)) (tDE C W (ev Φ G c1)) (tDE C W (ev Φ G c2)) σ H Q := fun σ H Q q => two_imp (by
      obtain ⟨ρ, Γ, S, st, rg, q⟩ := q
      rw [ev] at q
      exact ⟨ρ, Γ, S, st, rg, q⟩)
    exact ⟨(pe_cmpR (op_cmpP a.hK a.units op) (i1 x h2).1 (i2 y h3).1 (nomark_of h4)).mono imp,
      fun _ => (pt_cmpR (op_cmpP a.hK a.units op) (i1 x h2).1 (i2 y h3).1 (nomark_of h4)).mono fun σ H Q q => imp _ _ _ (tDT_tDE q), fun _ _ _ z => by cases z⟩
  · cases h
theorem lift_bl {o : Option D} (h : ∃ k : Bool, o = some (.bl k)) : True := trivial
theorem cmpD_bl {op : CmpOp} {a b z : D} (h : cmpD op a b = some z) : ∃ k, z = .bl k := by
  cases op <;> (simp only [cmpD, Option.map_eq_some_iff] at h; obtain ⟨k, _, rfl⟩ := h; exact ⟨_, rfl⟩)
theorem g_chain (a : At X C Φ G W) {o1 o2 : CmpOp} {c1 c2 c3 : CE} (h : chk X.N X.env.scope (.chain o1 o2 c1 c2 c3) e = true) (i1 : ∀ e, chk X.N X.env.scope c1 e = true → Good X C W e (ev Φ G c1)) (i2 : ∀ e, chk X.N X.env.scope c2 e = true → Good X C W e (ev Φ G c2))
    (i3 : ∀ e, chk X.N X.env.scope c3 e = true → Good X C W e (ev Φ G c3)) : Good X C W e (ev Φ G (.chain o1 o2 c1 c2 c3)) := by
  rw [chk.eq_def] at h
  dsimp only at h
  split at h
  · rename_i x p1 p2 y z p
    obtain ⟨h, h7⟩ := and2 h
    obtain ⟨h, h6⟩ := and2 h
    obtain ⟨h, h5⟩ := and2 h
    obtain ⟨h, h4⟩ := and2 h
    obtain ⟨h, h3⟩ := and2 h
    obtain ⟨h1, h2⟩ := and2 h
    rw [decide_eq_true_iff] at h1 h2
    subst h1 h2
    have hm : lastMarks [o1, o2] [y, z] = false := by show behindInMarks o2 z = false; exact nomark_of h4
    have imp : ∀ σ H Q, tDE C W (ev Φ G (.chain o1 o2 c1 c2 c3)) σ H Q → tChain (rP2 C (cmpD o1)) (rP2 C (cmpD o2)) (tDE C W (ev Φ G c1)) (tDE C W (ev Φ G c2)) (tDE C W (ev Φ G c3)) σ H Q := fun σ H Q q => by
      obtain ⟨ρ, Γ, S, st, rg, q⟩ := q
      rw [ev] at q
      refine tDE_bind st rg q fun d S1 x H1 n1 s1 r1 rg1 q1 => ?_
      refine tDE_bind s1 rg1 q1 fun e S2 y H2 n2 s2 r2 rg2 q2 => ?_
      cases hc : cmpD o1 (vw S2 d) (vw S2 e) with
      | none => rw [hc] at q2; exact q2.elim
      | some w =>
        obtain ⟨k, rfl⟩ := cmpD_bl hc
        rw [hc] at q2
        refine ⟨ρ, S2, _, _, _, s2, (r1.nx0 n2).vw s2, r2.vw s2, hc, fun v H3 n3 s3 r3 => ?_⟩
        cases r3
        refine ⟨k, rfl, ?_⟩
        cases k with
        | true =>
          refine tDE_bind s3 (rg2.nx0 n3) (Fin.nx n3 q2) fun f S3 z H4 n4 s4 r4 rg4 q4 => ?_
          obtain ⟨z', hz, q5⟩ := lift_fin q4
          exact ⟨ρ, S3, _, _, z', s4, (r2.nx0 (n3.trans n4)).vw s4, r4.vw s4, hz, q5⟩
        | false => exact q2 _ H3 n3 s3 (.inl (.bl _))
    exact ⟨(pe_chain (op_cmpP a.hK a.units o1) (op_cmpP a.hK a.units o2) (i1 x h5).1 (i2 y h6).1 (i3 z h7).1 hm).mono imp,
      fun _ => (pt_chain (op_cmpP a.hK a.units o1) (op_cmpP a.hK a.units o2) (i1 x h5).1 (i2 y h6).1 (i3 z h7).1 hm).mono fun σ H Q q => imp _ _ _ (tDT_tDE q), fun _ _ _ z => by cases z⟩
  · cases h
theorem g_not (a : At X C Φ G W) {c1 : CE} (h : chk X.N X.env.scope (.not c1) e = true) (i1 : ∀ e, chk X.N X.env.scope c1 e = true → Good X C W e (ev Φ G c1)) : Good X C W e (ev Φ G (.not c1)) := by
  rw [chk.eq_def] at h
  dsimp only at h
  split at h
  · rename_i x p
    obtain ⟨h0, h1⟩ := and2 h
    obtain ⟨g1, g2, _⟩ := i1 x h1
    refine ⟨(pe_not g1).mono fun σ H Q q => ?_, fun _ => (pt_not (g2 h0)).mono fun σ H Q q => ?_, fun _ _ _ z => by cases z⟩
    · obtain ⟨ρ, Γ, S, st, rg, q⟩ := q
      rw [ev] at q
      refine tDE_bind st rg q fun d S1 x H1 n1 s1 r1 rg1 q1 => ?_
      split at q1
      · obtain rfl := r1.bl
        exact ⟨_, rfl, q1 _ H1 (Nx.refl _ _) s1 (.inl (.bl _))⟩
      · exact q1.elim
    · obtain ⟨ρ, Γ, S, st, rg, q⟩ := q
      rw [ev] at q
      refine tDT_bindT st rg q (fun d S' hn => ?_) fun b S1 H1 n1 s1 rg1 q1 => ?_
      · split at hn
        · exact ⟨_, rfl⟩
        · exact absurd rfl hn
      · obtain ⟨b', e', q1⟩ := q1
        cases e'
        exact q1 H1 (Nx.refl _ _) s1
  · cases h
theorem and_bl {k : Sto → R} {r : R} {d : D} {S' : Sto} (hn : (match d with | .bl true => k S' | .bl false => r | _ => R.bad) ≠ .bad) : ∃ b, d = .bl b := by
  split at hn
  · exact ⟨_, rfl⟩
  · exact ⟨_, rfl⟩
  · exact absurd rfl hn
theorem and_core {fa fb : Gam → Sto → R} {x : Expr} {y : Expr} {rest : List Expr} {p : Pos} (ga : PE X x (tDE C W fa)) (ta : PT X x (tDT C W fa)) (gb : PE X (.BoolOp .And (y :: rest) p) (tDE C W fb)) (wb : PW X (.BoolOp .And (y :: rest) p) (tDT C W fb)) :
    Good X C W (.BoolOp .And (x :: y :: rest) p) (fun Γ S => (fa Γ S).bind fun d S1 => match d with | .bl true => fb Γ S1 | .bl false => .ok (.bl false) S1 | _ => .bad) := by
  have hw : PW X (.BoolOp .And (x :: y :: rest) p) (tDT C W (fun Γ S => (fa Γ S).bind fun d S1 => match d with | .bl true => fb Γ S1 | .bl false => .ok (.bl false) S1 | _ => .bad)) := by
    refine (pw_and ta wb).mono fun σ H Q q => ?_
    obtain ⟨ρ, Γ, S, st, rg, q⟩ := q
    refine tDT_bindT st rg q (fun d S' hn => and_bl hn) fun b S1 H1 n1 s1 rg1 q1 => ?_
    cases b with
    | true => exact ⟨ρ, Γ, S1, s1, rg1, q1⟩
    | false =>
      obtain ⟨b', e', q1⟩ := q1
      cases e'
      exact q1 H1 (Nx.refl _ _) s1
  refine ⟨(pe_and ga gb).mono fun σ H Q q => ?_, fun _ => hw.pt, fun _ _ _ _ => hw⟩
  obtain ⟨ρ, Γ, S, st, rg, q⟩ := q
  refine tDE_bind st rg q fun d S1 x H1 n1 s1 r1 rg1 q1 => ?_
  split at q1
  · obtain rfl := r1.bl
    exact ⟨_, rfl, ρ, Γ, S1, s1, rg1, q1⟩
  · obtain rfl := r1.bl
    exact ⟨_, rfl, q1 _ H1 (Nx.refl _ _) s1 (.inl (.bl _))⟩
  · exact q1.elim
theorem or_core {fa fb : Gam → Sto → R} {x : Expr} {y : Expr} {rest : List Expr} {p : Pos} (ga : PE X x (tDE C W fa)) (ta : PT X x (tDT C W fa)) (gb : PE X (.BoolOp .Or (y :: rest) p) (tDE C W fb)) (wb : PW X (.BoolOp .Or (y :: rest) p) (tDT C W fb)) :
    Good X C W (.BoolOp .Or (x :: y :: rest) p) (fun Γ S => (fa Γ S).bind fun d S1 => match d with | .bl true => .ok (.bl true) S1 | .bl false => fb Γ S1 | _ => .bad) := by
  have hw : PW X (.BoolOp .Or (x :: y :: rest) p) (tDT C W (fun Γ S => (fa Γ S).bind fun d S1 => match d with | .bl true => .ok (.bl true) S1 | .bl false => fb Γ S1 | _ => .bad)) := by
    refine (pw_or ta wb).mono fun σ H Q q => ?_
    obtain ⟨ρ, Γ, S, st, rg, q⟩ := q
    refine tDT_bindT st rg q (fun d S' hn => ?_) fun b S1 H1 n1 s1 rg1 q1 => ?_
    · split at hn
      · exact ⟨_, rfl⟩
      · exact ⟨_, rfl⟩
      · exact absurd rfl hn
    cases b with
    | false => exact ⟨ρ, Γ, S1, s1, rg1, q1⟩
    | true =>
      obtain ⟨b', e', q1⟩ := q1
      cases e'
      exact q1 H1 (Nx.refl _ _) s1
  refine ⟨(pe_or ga gb).mono fun σ H Q q => ?_, fun _ => hw.pt, fun _ _ _ _ => hw⟩
  obtain ⟨ρ, Γ, S, st, rg, q⟩ := q
  refine tDE_bind st rg q fun d S1 x H1 n1 s1 r1 rg1 q1 => ?_
  split at q1
  · obtain rfl := r1.bl
    exact ⟨_, rfl, q1 _ H1 (Nx.refl _ _) s1 (.inl (.bl _))⟩
  · obtain rfl := r1.bl
    exact ⟨_, rfl, ρ, Γ, S1, s1, rg1, q1⟩
  · exact q1.elim
theorem ev_and_eq (c1 c2 : CE) : ev Φ G (.and c1 c2) = fun Γ S => (ev Φ G c1 Γ S).bind fun d S1 => match d with | .bl true => ev Φ G c2 Γ S1 | .bl false => .ok (.bl false) S1 | _ => .bad := by
  funext Γ S; rw [ev] <;> rfl
theorem ev_or_eq (c1 c2 : CE) : ev Φ G (.or c1 c2) = fun Γ S => (ev Φ G c1 Γ S).bind fun d S1 => match d with | .bl true => .ok (.bl true) S1 | .bl false => ev Φ G c2 Γ S1 | _ => .bad := by
  funext Γ S; rw [ev] <;> rfl
theorem g_and (a : At X C Φ G W) {c1 c2 : CE} (h : chk X.N X.env.scope (.and c1 c2) e = true) (i1 : ∀ e, chk X.N X.env.scope c1 e = true → Good X C W e (ev Φ G c1)) (i2 : ∀ e, chk X.N X.env.scope c2 e = true → Good X C W e (ev Φ G c2)) :
    Good X C W e (ev Φ G (.and c1 c2)) := by
  rw [ev_and_eq]
  rw [chk.eq_def] at h
  dsimp only at h
  split at h
  · rename_i x y p
    obtain ⟨h, h4⟩ := and2 h
    obtain ⟨h, h3⟩ := and2 h
    obtain ⟨h1, h2⟩ := and2 h
    obtain ⟨g1, g2, _⟩ := i1 x h3
    obtain ⟨k1, k2, _⟩ := i2 y h4
    exact and_core g1 (g2 h1) (pe_one k1) (pw_and1 (k2 h2))
  · rename_i x y z r p
    obtain ⟨h, h4⟩ := and2 h
    obtain ⟨h1, h2⟩ := and2 h
    obtain ⟨g1, g2, _⟩ := i1 x h2
    obtain ⟨k1, k2, k3⟩ := i2 _ h4
    exact and_core g1 (g2 h1) k1 (k3 _ _ _ rfl)
  · cases h
theorem g_or (a : At X C Φ G W) {c1 c2 : CE} (h : chk X.N X.env.scope (.or c1 c2) e = true) (i1 : ∀ e, chk X.N X.env.scope c1 e = true → Good X C W e (ev Φ G c1)) (i2 : ∀ e, chk X.N X.env.scope c2 e = true → Good X C W e (ev Φ G c2)) :
    Good X C W e (ev Φ G (.or c1 c2)) := by
  rw [ev_or_eq]
  rw [chk.eq_def] at h
  dsimp only at h
  split at h
  · rename_i x y p
    obtain ⟨h, h4⟩ := and2 h
    obtain ⟨h, h3⟩ := and2 h
    obtain ⟨h1, h2⟩ := and2 h
    obtain ⟨g1, g2, _⟩ := i1 x h3
    obtain ⟨k1, k2, _⟩ := i2 y h4
    exact or_core g1 (g2 h1) (pe_one k1) (pw_or1 (k2 h2))
  · rename_i x y z r p
    obtain ⟨h, h4⟩ := and2 h
    obtain ⟨h1, h2⟩ := and2 h
    obtain ⟨g1, g2, _⟩ := i1 x h2
    obtain ⟨k1, k2, k3⟩ := i2 _ h4
    exact or_core g1 (g2 h1) k1 (k3 _ _ _ rfl)
  · cases h
theorem g_ite (a : At X C Φ G W) {c c1 c2 : CE} (h : chk X.N X.env.scope (.ite c c1 c2) e = true) (i0 : ∀ e, chk X.N X.env.scope c e = true → Good X C W e (ev Φ G c)) (i1 : ∀ e, chk X.N X.env.scope c1 e = true → Good X C W e (ev Φ G c1)) (i2 : ∀ e, chk X.N X.env.scope c2 e = true → Good X C W e (ev Φ G c2)) :
    Good X C W e (ev Φ G (.ite c c1 c2)) := by
  rw [chk.eq_def] at h
  dsimp only at h
  split at h
  · rename_i x y z p
    obtain ⟨h, h4⟩ := and2 h
    obtain ⟨h, h3⟩ := and2 h
    obtain ⟨h1, h2⟩ := and2 h
    obtain ⟨_, g2, _⟩ := i0 x h2
    refine ⟨(pe_ifExp (g2 h1) (i1 y h3).1 (i2 z h4).1).mono fun σ H Q q => ?_, (fun z => by cases z), fun _ _ _ z => by cases z⟩
    obtain ⟨ρ, Γ, S, st, rg, q⟩ := q
    rw [ev] at q
    refine tDT_bind st rg q (fun d S' hn => ?_) fun b S1 H1 n1 s1 rg1 q1 => ?_
    · split at hn
      · exact ⟨_, rfl⟩
      · exact ⟨_, rfl⟩
      · exact absurd rfl hn
    cases b with
    | true => exact ⟨ρ, Γ, S1, s1, rg1, q1⟩
    | false => exact ⟨ρ, Γ, S1, s1, rg1, q1⟩
  · cases h
end
end EK

set_option Elab.async false
set_option linter.all false
set_option maxRecDepth 100000
set_option maxHeartbeats 4000000
namespace EK
open PySem L2 PySem.Spec
section
variable {X : Cx} {C : Ct} {Φ : Str → Option Fsem} {G : Str → Option D} {W : WX} {e : Expr} {f : Gam → Sto → R} {t : TE}
/-- arguments -/
def GoodA (X : Cx) (C : Ct) (W : WX) (es : List Expr) (f : Gam → Sto → RA) : Prop := PA X es (tDA C W f)
theorem ga_nil (h : chks X.N X.env.scope [] es = true) : GoodA X C W es (evs Φ G []) := by
  rw [chks.eq_def] at h
  dsimp only at h
  have : es = [] := by cases es with | nil => rfl | cons _ _ => cases h
  subst this
  refine pa_nil.mono fun σ H Q q => ?_
  obtain ⟨ρ, Γ, S, st, rg, q⟩ := q
  rw [evs] at q
  exact q [] H (Nx.refl _ _) st .nil
theorem ga_cons {c : CE} {cs : List CE} {es : List Expr} (h : chks X.N X.env.scope (c :: cs) es = true) (i1 : ∀ e, chk X.N X.env.scope c e = true → Good X C W e (ev Φ G c)) (i2 : ∀ es, chks X.N X.env.scope cs es = true → GoodA X C W es (evs Φ G cs)) :
    GoodA X C W es (evs Φ G (c :: cs)) := by
  rw [chks.eq_def] at h
  dsimp only at h
  split at h
  · rename_i e es
    obtain ⟨h, h3⟩ := and2 h
    obtain ⟨h1, h2⟩ := and2 h
    refine (pa_cons (i1 e h2).1 (i2 es h3) (star_of h1)).mono fun σ H Q q => ?_
    obtain ⟨ρ, Γ, S, st, rg, q⟩ := q
    rw [evs] at q
    refine ⟨ρ, Γ, S, st, rg, ?_⟩
    cases e1 : ev Φ G c Γ S with
    | bad => rw [e1] at q; exact q
    | ex c d S' => rw [e1] at q; exact q
    | ok d S1 =>
      rw [e1] at q
      dsimp only at q
      intro v H1 n1 s1 r1
      refine ⟨ρ, Γ, S1, s1, rg.nx0 n1, ?_⟩
      cases e2 : evs Φ G cs Γ S1 with
      | bad => rw [e2] at q; exact q
      | ex c d S' => rw [e2] at q; exact fun Ca dd v H2 e n s q' nd r => q Ca dd v H2 e (n1.trans n) s q' nd r
      | ok ds S2 =>
        rw [e2] at q
        exact fun vs H2 n2 s2 r2 => q (v :: vs) H2 (n1.trans n2) s2 (.cons (r1.nx0 n2) r2)
  · cases h
/-- no star among them -/
theorem plain_back {env : Env} {pos : Pos} : ∀ {cs : List CE} {es : List Expr} {sc : Scope} {N : List Str}, chks N sc cs es = true → (backTo pos (starEach es env)).any (·.1) = false
  | [], es, sc, N, h => by
    rw [chks.eq_def] at h
    dsimp only at h
    have : es = [] := by cases es with | nil => rfl | cons _ _ => cases h
    subst this; rfl
  | c :: cs, es, sc, N, h => by
    rw [chks.eq_def] at h
    dsimp only at h
    split at h
    · rename_i e es
      obtain ⟨h, h3⟩ := and2 h
      obtain ⟨h1, h2⟩ := and2 h
      have ih := plain_back (env := env) (pos := pos) h3
      rw [star_of h1]
      unfold backTo at ih ⊢
      rw [List.map_cons, List.any_cons, ih]; rfl
    · cases h
theorem chks_tail {c : CE} {cs : List CE} {e : Expr} {es : List Expr} {sc : Scope} {N : List Str} (h : chks N sc (c :: cs) (e :: es) = true) : plainB e = true ∧ chk N sc c e = true ∧ chks N sc cs es = true := by
  rw [chks.eq_def] at h
  dsimp only at h
  obtain ⟨h, h3⟩ := and2 h
  obtain ⟨h1, h2⟩ := and2 h
  exact ⟨h1, h2, h3⟩
theorem chks_head {cs : List CE} {e : Expr} {es : List Expr} {sc : Scope} {N : List Str} (h : chks N sc cs (e :: es) = true) : ∃ c cs', cs = c :: cs' := by
  cases cs with
  | nil => rw [chks.eq_def] at h; cases h
  | cons c cs => exact ⟨c, cs, rfl⟩
theorem args_facts {cs : List CE} {e : Expr} {es : List Expr} {sc : Scope} {N : List Str} {env : Env} {pos : Pos} (h : chks N sc cs (e :: es) = true) :
    starEach (e :: es) env = (false, eval e env) :: starEach es env ∧ (backTo pos (starEach es env)).any (·.1) = false := by
  obtain ⟨c, cs', rfl⟩ := chks_head h
  obtain ⟨h1, h2, h3⟩ := chks_tail h
  exact ⟨star_of h1, plain_back h3⟩
theorem g_call (a : At X C Φ G W) {fn : Str} {args : List CE} (h : chk X.N X.env.scope (.call fn args) e = true) (i : ∀ es, chks X.N X.env.scope args es = true → GoodA X C W es (evs Φ G args)) : Good X C W e (ev Φ G (.call fn args)) := by
  rw [chk.eq_def] at h
  dsimp only at h
  split at h
  · rename_i x p y ys q0
    obtain ⟨h, h3⟩ := and2 h
    obtain ⟨h1, h2⟩ := and2 h
    rw [decide_eq_true_iff] at h1
    subst h1
    obtain ⟨g1, g2, g3⟩ := gl_of h2
    cases hF : Φ x with
    | none =>
      refine good_plain ⟨fun pins s σ H Q I q => ?_⟩ rfl
      obtain ⟨ρ, Γ, S, st, rg, q⟩ := q
      rw [ev, hF] at q
      exact q.elim
    | some F =>
      obtain ⟨fa, fd, ps, k, hm, hk, hb, hf, hr⟩ := a.fns x F hF
      obtain ⟨e1, e2⟩ := args_facts (env := X.env) (pos := q0) h3
      refine good_plain ((pe_callG (p := p) hf hr g1 hm hk hb.b (fun σ => passAt a.tk σ) (i _ h3) g2 e1 e2).mono fun σ H Q q => ?_) rfl
      obtain ⟨ρ, Γ, S, st, rg, q⟩ := q
      rw [ev, hF] at q
      refine tDA_bind st rg q fun ds S1 vs H1 n1 s1 r1 rg1 q1 => ?_
      refine ⟨ds, ρ, S1, s1, r1, ?_⟩
      cases hr : F ds S1 with
      | bad => rw [hr] at q1; exact q1
      | ok d S2 => rw [hr] at q1; exact q1
      | ex c d S2 => rw [hr] at q1; exact q1
  · rename_i x p q0
    obtain ⟨h, h3⟩ := and2 h
    obtain ⟨h1, h2⟩ := and2 h
    rw [decide_eq_true_iff] at h1
    subst h1
    obtain ⟨g1, g2, g3⟩ := gl_of h2
    have ha : args = [] := by
      cases args with
      | nil => rfl
      | cons _ _ => rw [chks.eq_def] at h3; cases h3
    subst ha
    cases hF : Φ x with
    | none =>
      refine good_plain ⟨fun pins s σ H Q I q => ?_⟩ rfl
      obtain ⟨ρ, Γ, S, st, rg, q⟩ := q
      rw [ev, hF] at q
      exact q.elim
    | some F =>
      obtain ⟨fa, fd, ps, k, hm, hk, hb, hf, hr⟩ := a.fns x F hF
      refine good_plain ((pe_callG0 (p := p) hf hr g1 hm hk hb.b (fun σ => passAt a.tk σ) g2).mono fun σ H Q q => ?_) rfl
      obtain ⟨ρ, Γ, S, st, rg, q⟩ := q
      rw [ev, hF, evs] at q
      refine ⟨[], ρ, S, st, .nil, ?_⟩
      have q : Fin C W ρ σ H Q ((RA.ok [] S).bind F) := q
      rw [show (RA.ok [] S).bind F = F [] S from rfl] at q
      cases hr : F [] S with
      | bad => rw [hr] at q; exact q
      | ok d S2 => rw [hr] at q; exact q
      | ex c d S2 => rw [hr] at q; exact q
  · cases h

theorem mem_blt {x : Str} (h : (bltNames.contains x) = true) : x ∈ bltNames := by simpa using h
/-- the rule of a built-in by its name -/
theorem bf_rule (a : At X C Φ G W) (b : Bf) {x : Str} {p q0 : Pos} {y : Expr} {ys : List Expr} {ta : TA} (hx : x = bfName b) (hg : Gl X x) (ha : PA X (y :: ys) ta) (e1 : starEach (y :: ys) X.env = (false, eval y X.env) :: starEach ys X.env)
    (e2 : (backTo q0 (starEach ys X.env)).any (·.1) = false) : PE X (.Call (.Name x p) (y :: ys) [] q0) (tCB (rPn C (bfSem b)) ta) := by
  subst hx
  cases b with
  | len => exact pe_callB (call_lenP a.hK) hg (a.blt _ (by decide)) PySem.boot_len ha (by decide) (by decide) e1 e2
  | abs => exact pe_callB call_absP hg (a.blt _ (by decide)) PyProof.Rows.boot_abs ha (by decide) (by decide) e1 e2
  | int => exact pe_callTy call_intP hg (a.blt _ (by decide)) PyProof.Rows.boot_int ha (by decide) (by decide) e1 e2
  | max => exact pe_callB (call_maxP a.hK a.calm a.units) hg (a.blt _ (by decide)) PyProof.Rows.boot_max ha (by decide) (by decide) e1 e2
  | min => exact pe_callB (call_minP a.hK a.calm a.units) hg (a.blt _ (by decide)) PyProof.Rows.boot_min ha (by decide) (by decide) e1 e2
  | sum => exact pe_callB (call_sumP a.hK a.calm) hg (a.blt _ (by decide)) PyProof.Rows.boot_sum ha (by decide) (by decide) e1 e2
  | all => exact pe_callB (call_allP a.calm) hg (a.blt _ (by decide)) (by decide +kernel) ha (by decide) (by decide) e1 e2
  | any => exact pe_callB (call_anyP a.calm) hg (a.blt _ (by decide)) (by decide +kernel) ha (by decide) (by decide) e1 e2
  | list => exact pe_callTy (call_listP a.hK) hg (a.blt _ (by decide)) PyProof.Rows.boot_list ha (by decide) (by decide) e1 e2
  | tuple => exact pe_callTy (call_tupleP a.hK) hg (a.blt _ (by decide)) PyProof.Rows.boot_tuple ha (by decide) (by decide) e1 e2
  | repr => exact pe_callB (call_reprP a.hK a.sm a.gd a.units) hg (a.blt _ (by decide)) (by decide +kernel) ha (by decide) (by decide) e1 e2
  | sorted => exact pe_callB (call_sortedP a.hK a.units) hg (a.blt _ (by decide)) (by decide +kernel) ha (by decide) (by decide) e1 e2
theorem g_blt (a : At X C Φ G W) {b : Bf} {args : List CE} (h : chk X.N X.env.scope (.blt b args) e = true) (i : ∀ es, chks X.N X.env.scope args es = true → GoodA X C W es (evs Φ G args)) : Good X C W e (ev Φ G (.blt b args)) := by
  rw [chk.eq_def] at h
  dsimp only at h
  split at h
  · rename_i x p y ys q0
    obtain ⟨h, h3⟩ := and2 h
    obtain ⟨h1, h2⟩ := and2 h
    rw [decide_eq_true_iff] at h1
    obtain ⟨g1, g2, g3⟩ := gl_of h2
    obtain ⟨e1, e2⟩ := args_facts (env := X.env) (pos := q0) h3
    refine good_plain ((bf_rule a b h1 g1 (i _ h3) e1 e2).mono fun σ H Q q => ?_) rfl
    obtain ⟨ρ, Γ, S, st, rg, q⟩ := q
    rw [ev] at q
    refine tDA_bind st rg q fun ds S1 vs H1 n1 s1 r1 rg1 q1 => ?_
    obtain ⟨z, hz, q2⟩ := lift_fin q1
    exact ⟨ρ, S1, _, z, s1, paired_vw s1 r1, hz, q2⟩
  · cases h
theorem g_neg (a : At X C Φ G W) {c1 : CE} (h : chk X.N X.env.scope (.neg c1) e = true) (i1 : ∀ e, chk X.N X.env.scope c1 e = true → Good X C W e (ev Φ G c1)) : Good X C W e (ev Φ G (.neg c1)) := by
  rw [chk.eq_def] at h
  dsimp only at h
  split at h
  · rename_i x p
    refine good_plain ((pe_un un_neg (i1 x h).1).mono fun σ H Q q => ?_) rfl
    obtain ⟨ρ, Γ, S, st, rg, q⟩ := q
    rw [ev] at q
    refine tDE_bind st rg q fun d S1 x H1 n1 s1 r1 rg1 q1 => ?_
    obtain ⟨z, hz, q2⟩ := lift_fin q1
    unfold negD at hz
    split at hz
    · cases hz
      rcases r1 with r1 | ⟨_, _, z, _⟩
      · cases r1; exact ⟨_, rfl, q2 _ H1 (Nx.refl _ _) s1 (.int _)⟩
      · cases z
    · cases hz
  · cases h
theorem g_tup (a : At X C Φ G W) {es : List CE} (h : chk X.N X.env.scope (.tup es) e = true) (i : ∀ xs, chks X.N X.env.scope es xs = true → GoodA X C W xs (evs Φ G es)) : Good X C W e (ev Φ G (.tup es)) := by
  rw [chk.eq_def] at h
  dsimp only at h
  split at h
  · rename_i xs k p
    refine good_plain ((pe_tup (i xs h)).mono fun σ H Q q => ?_) rfl
    obtain ⟨ρ, Γ, S, st, rg, q⟩ := q
    rw [ev] at q
    refine tDA_bind st rg q fun ds S1 vs H1 n1 s1 r1 rg1 q1 => ?_
    split at q1
    · rename_i hc
      have ra := paired_d r1 hc.1
      refine ⟨by rw [ra.length, szL_eq]; exact hc.2, fun p hp => ?_⟩
      exact q1 _ _ (Nx.new hp) (s1.new hp) (.inl (.tup (.inl ⟨.inl upd_same, s1.free hp⟩) (ra.nx (Nx.new hp))))
    · exact q1.elim
  · cases h
theorem g_lst (a : At X C Φ G W) {es : List CE} (h : chk X.N X.env.scope (.lst es) e = true) (i : ∀ xs, chks X.N X.env.scope es xs = true → GoodA X C W xs (evs Φ G es)) : Good X C W e (ev Φ G (.lst es)) := by
  rw [chk.eq_def] at h
  dsimp only at h
  split at h
  · rename_i xs p
    refine good_plain ((pe_lst (i xs h)).mono fun σ H Q q => ?_) rfl
    obtain ⟨ρ, Γ, S, st, rg, q⟩ := q
    rw [ev] at q
    refine tDA_bind st rg q fun ds S1 vs H1 n1 s1 r1 rg1 q1 => ?_
    split at q1
    · rename_i hc
      have ra := paired_d r1 hc.1
      refine ⟨by rw [ra.length, szL_eq]; exact hc.2, fun p hp => ?_⟩
      exact q1 _ _ (Nx.new hp) (s1.new hp) (.inl (.lst ⟨upd_same, s1.free hp⟩ (ra.nx (Nx.new hp))))
    · exact q1.elim
  · cases h
theorem g_idx (a : At X C Φ G W) {c1 c2 : CE} (h : chk X.N X.env.scope (.idx c1 c2) e = true) (i1 : ∀ e, chk X.N X.env.scope c1 e = true → Good X C W e (ev Φ G c1)) (i2 : ∀ e, chk X.N X.env.scope c2 e = true → Good X C W e (ev Φ G c2)) :
    Good X C W e (ev Φ G (.idx c1 c2)) := by
  rw [chk.eq_def] at h
  dsimp only at h
  split at h
  · rename_i x y p
    obtain ⟨h, h3⟩ := and2 h
    obtain ⟨h1, h2⟩ := and2 h
    refine good_plain ((pe_ix (ix_P a.hK a.units a.tabs) (i1 x h2).1 (i2 y h3).1 (plain_ix h1)).mono fun σ H Q q => two_imp ?_) rfl
    obtain ⟨ρ, Γ, S, st, rg, q⟩ := q
    rw [ev] at q
    exact ⟨ρ, Γ, S, st, rg, q⟩
  · cases h
theorem opt_part {l : Option Expr} {c : CE} {sc : Scope} (h : (match l with | none => nonC c | some y => !nonC c && chk X.N sc c y) = true) :
    (l = none ∧ nonC c = true) ∨ ∃ y, l = some y ∧ nonC c = false ∧ chk X.N sc c y = true := by
  split at h
  · exact .inl ⟨rfl, h⟩
  · obtain ⟨h1, h2⟩ := and2 h
    exact .inr ⟨_, rfl, by simpa using h1, h2⟩
/-- a bound of a slice -/
theorem part_imp {l : Option Expr} {c : CE} (h : (l = none ∧ nonC c = true) ∨ ∃ y, l = some y ∧ nonC c = false ∧ chk X.N X.env.scope c y = true) (i : ∀ e, chk X.N X.env.scope c e = true → Good X C W e (ev Φ G c)) :
    ∃ to, PO X l to ∧ ∀ (σ : L2.St) (H : Hp) (ρ : Rg) (Γ : Gam) (S : Sto) (Q : VK) (Q' : Option Int → Hp → Prop) (k : D → Sto → R), StOk C H ρ S → RepG C H ρ σ Γ → Fin C W ρ σ H Q ((ev Φ G c Γ S).bind k) → 
      (∀ d S' H', Nx H ρ H' ρ → StOk C H' ρ S' → RepG C H' ρ σ Γ → Fin C W ρ σ H' Q (k d S') → (∃ o, partI c d = some o) ∧ ∀ o, partI c d = some o → Q' o H') → to σ H Q' := by
  rcases h with ⟨rfl, hn⟩ | ⟨y, rfl, hn, hc⟩
  · refine ⟨_, po_none, fun σ H ρ Γ S Q Q' k st rg q hk => ?_⟩
    have e : c = .con .non := by
      unfold nonC at hn
      split at hn
      · rfl
      · cases hn
    subst e
    rw [ev] at q
    exact (hk .non S H (Nx.refl _ _) st rg q).2 none rfl
  · refine ⟨_, po_some (i y hc).1, fun σ H ρ Γ S Q Q' k st rg q hk => ?_⟩
    refine tDE_bind st rg q fun d S1 x H1 n1 s1 r1 rg1 q1 => ?_
    obtain ⟨⟨o, ho⟩, h2⟩ := hk d S1 H1 n1 s1 rg1 q1
    have ho' := ho
    unfold partI at ho
    rw [if_neg (by rw [hn]; decide)] at ho
    split at ho
    · cases ho
      rcases r1 with r1 | ⟨_, _, z, _⟩
      · cases r1; exact ⟨_, rfl, h2 _ ho'⟩
      · cases z
    · cases ho
theorem g_sl (a : At X C Φ G W) {c1 c2 c3 : CE} (h : chk X.N X.env.scope (.sl c1 c2 c3) e = true) (i1 : ∀ e, chk X.N X.env.scope c1 e = true → Good X C W e (ev Φ G c1)) (i2 : ∀ e, chk X.N X.env.scope c2 e = true → Good X C W e (ev Φ G c2))
    (i3 : ∀ e, chk X.N X.env.scope c3 e = true → Good X C W e (ev Φ G c3)) : Good X C W e (ev Φ G (.sl c1 c2 c3)) := by
  rw [chk.eq_def] at h
  dsimp only at h
  split at h
  · rename_i x l hh p1 p2
    obtain ⟨h, h3⟩ := and2 h
    obtain ⟨h1, h2⟩ := and2 h
    obtain ⟨tl, pl, il⟩ := part_imp (opt_part h2) i2
    obtain ⟨th, ph, ih⟩ := part_imp (opt_part h3) i3
    refine good_plain ((pe_slice (sl_P a.hK) (i1 x h1).1 pl ph).mono fun σ H Q q => ?_) rfl
    obtain ⟨ρ, Γ, S, st, rg, q⟩ := q
    rw [ev] at q
    refine tDE_bind st rg q fun d S1 x H1 n1 s1 r1 rg1 q1 => ?_
    refine il σ H1 ρ Γ S1 Q _ _ s1 rg1 q1 fun l S2 H2 n2 s2 rg2 q2 => ?_
    cases e2 : partI c2 l with
    | none => rw [e2] at q2; exact q2.elim
    | some l' =>
      rw [e2] at q2
      refine ⟨⟨l', rfl⟩, fun o eo => ?_⟩
      cases eo
      refine ih σ H2 ρ Γ S2 Q _ _ s2 rg2 q2 fun h S3 H3 n3 s3 rg3 q3 => ?_
      cases e3 : partI c3 h with
      | none => rw [e3] at q3; exact q3.elim
      | some h' =>
        rw [e3] at q3
        refine ⟨⟨h', rfl⟩, fun o eo => ?_⟩
        cases eo
        obtain ⟨z, hz, q4⟩ := lift_fin q3
        exact ⟨ρ, S3, _, z, s3, (r1.nx0 (n2.trans n3)).vw s3, hz, q4⟩
  · cases h
end
end EK

set_option Elab.async false
set_option linter.all false
set_option maxRecDepth 100000
set_option maxHeartbeats 4000000
namespace EK
open PySem L2 PySem.Spec PyProof.Rows
section
variable {X : Cx} {C : Ct} {Φ : Str → Option Fsem} {G : Str → Option D} {W : WX} {e : Expr} {f : Gam → Sto → R} {t : TE}
def rRev (C : Ct) : V → Hp → VK → Prop := fun x H Q => ∃ ρ S d z, StOk C H ρ S ∧ VwR C H ρ x d ∧ revD d = some z ∧ ∀ v H', Nx H ρ H' ρ → StOk C H' ρ S → RepD C H' ρ v z → Q v H'
theorem str_rev (w : List Nat) : (Builtin.Str.strSliceIndices none none (-1) w.length).filterMap ((⟨w.toArray⟩ : Str).cps[·]?) = w.reverse := by
  have e : Builtin.Str.strSliceIndices none none (-1) w.length = (List.range w.length).map fun k => w.length - 1 - k := by
    unfold Builtin.Str.strSliceIndices
    show sliceRange ((w.length : Int) - 1) (-1) (-1) = _
    exact PySem.W.krv_sliceRange w.length
  rw [e, PySem.W.krv_range, List.filterMap_reverse]
  have h := PySem.W.krv_all w.toArray
  rw [List.size_toArray] at h
  rw [h]
theorem pe_rev {te : TE} {k : Nat} {p1 p2 p3 pos : Pos} (hK : X.K = C.K) (he : PE X e te) : PE X (.Subscript e (.Slice none none (some (.UnaryOp .USub (.Constant (.int 1) k p1) p2)) p3) pos) (fun σ H Q => te σ H fun x H1 => rRev C x H1 Q) := by
  refine ⟨fun pins s σ H Q I h => ?_⟩
  refine Subscript_ (thn (he.run pins s σ H _ I h) fun v s1 ⟨x, H1, I1, r1, q1⟩ => ?_)
  obtain ⟨ρ, S, d, z, st, hx, hg, q⟩ := q1
  have hst : PO X (some (.UnaryOp .USub (.Constant (.int 1) k p1) p2)) (tPart (tUn (rU fun i => .int (-i)) (tC (.int 1)))) := po_some (pe_un un_neg pe_int)
  refine wpAny_Slice (thn (po_none.run pins s1 σ H1 (fun o H2 => o = none ∧ H2 = H1) I1 ⟨rfl, rfl⟩) fun vl s2 ⟨l, H2, I2, pl, el, e2⟩ => ?_)
  subst el e2
  refine thn (po_none.run pins s2 σ H2 (fun o H3 => o = none ∧ H3 = H2) I2 ⟨rfl, rfl⟩) fun vu s3 ⟨u, H3, I3, pu, eu, e3⟩ => ?_
  subst eu e3
  refine thn (hst.run pins s3 σ H3 (fun o H4 => o = some (-1) ∧ H4 = H3) I3 ⟨1, rfl, -1, rfl, rfl, rfl⟩) fun vs s4 ⟨o, H4, I4, ps, eo, e4⟩ => ?_
  subst eo e4
  have I5 : L2.Inv X pins σ H4 { s4 with heap := s4.heap.push { cls := .type "slice", data := .fields #[vl, vu, vs] } } := I4.kept (t' := s4.toks) fun b ob q => Heap.get?_push_of_some _ q
  unfold revD at hg
  split at hg
  · cases hg
    obtain ⟨a, xs, rfl, ha, ra⟩ := hx.lst
    cases r1
    obtain ⟨its, r, ht, hz⟩ := I5.list (a := a) (xs := xs) (.inl (.inl ha))
    have hlen := r.length
    show wpAny (model X.prog X.w) X.A (subscriptTail e (.Slice none none (some (.UnaryOp .USub (.Constant (.int 1) k p1) p2)) p3) (.ref a) (.ref s4.heap.objs.size)) (EP X pins σ Q) X.xe _
    refine tail_any (ops := [.ref a, .ref s4.heap.objs.size]) ht.isList.typeIs (PySem.slot_list_getitem.lookup) ?_ (by with_unfolding_all rfl)
    refine wpAny_getItem_list_slice ht.isList (Heap.IsSliceOf.new _ vl vu vs) pl pu ps (by decide) ?_ (by rw [List.size_toArray]; omega)
    rw [PySem.W.krv_pick]
    refine ⟨.ref _, _, I5.laid (t' := s4.toks) (o := .lst xs.reverse) (fun b ob q => Heap.get?_push_of_some _ q) (Nat.le_refl _) ?_, rfl, finL st q ra.reverse (I5.hok.fresh (Nat.le_refl _))⟩
    exact ⟨by rw [List.length_reverse]; exact hz, _, 0, r.reverse, Heap.get?_push_size _ rfl⟩
  · split at hg
    · rename_i w hl
      cases hg
      obtain rfl := hx.str
      obtain ⟨t, rfl⟩ := r1
      show wpAny (model X.prog X.w) X.A (subscriptTail e (.Slice none none (some (.UnaryOp .USub (.Constant (.int 1) k p1) p2)) p3) (.str ⟨w.toArray⟩ t) (.ref s4.heap.objs.size)) (EP X pins σ Q) X.xe _
      refine tail_any (ops := [.str ⟨w.toArray⟩ t, .ref s4.heap.objs.size]) (typeIs_str _ _ _) F.slot_str_getitem.lookup ?_ (by with_unfolding_all rfl)
      obtain ⟨l, rfl, el⟩ := IsPart.raw pl
      obtain ⟨u, rfl, eu⟩ := IsPart.raw pu
      obtain ⟨s, rfl, es⟩ := IsPart.raw ps
      refine wpAny_getItem_str_slice (l := l) (u := u) (st := s) ⟨_, Heap.get?_push_size _ rfl, rfl, rfl⟩ (by rw [es]; decide) ?_
      unfold sliceMade slicePicked
      rw [el, eu, es]
      show Made.post (if ((-1 : Int) == 1 && _) = true then _ else Made.str ⟨((Builtin.Str.strSliceIndices none none (-1) (⟨w.toArray⟩ : Str).length).filterMap ((⟨w.toArray⟩ : Str).cps[·]?)).toArray⟩) (EP X pins σ Q) _
      rw [if_neg (by intro z; cases z), str_len, str_rev]
      refine ⟨?_, .str ⟨w.reverse.toArray⟩, H4, I5.tok _, ⟨_, rfl⟩, fin0 st q (.str _)⟩
      rw [str_len, List.length_reverse, szL_eq]; exact hl
    · cases hg
  · cases hg
    obtain ⟨a, xs, rfl, ha, ra⟩ := hx.tup
    cases r1
    obtain ⟨its, r, ht, hz⟩ := I5.tuple (a := a) (xs := xs) (by rw [hK]; exact ha.sq)
    have hlen := r.length
    cases pl
    cases pu
    cases ps with
    | int _ t0 =>
      show wpAny (model X.prog X.w) X.A (subscriptTail e (.Slice none none (some (.UnaryOp .USub (.Constant (.int 1) k p1) p2)) p3) (.ref a) (.ref s4.heap.objs.size)) (EP X pins σ Q) X.xe _
      refine tail_any (ops := [.ref a, .ref s4.heap.objs.size]) ht.typeIs (PyProof.Rows.slot_tuple_getitem.lookup) ?_ (by with_unfolding_all rfl)
      refine item_rev ht (Heap.IsSliceOf.new _ .none .none (.int (-1) t0)) (by rw [List.size_toArray]; omega) ?_
      refine ⟨.ref _, _, I5.laid (t' := s4.toks) (o := .tup xs.reverse) (fun b ob q => Heap.get?_push_of_some _ q) (Nat.le_refl _) ?_, rfl, finT st q ra.reverse (I5.hok.fresh (Nat.le_refl _))⟩
      exact ⟨by rw [List.length_reverse]; exact hz, _, by simpa using r.reverse, ⟨_, Heap.get?_push_size _ rfl, rfl, _, rfl⟩⟩
  · cases hg
theorem g_rev (a : At X C Φ G W) {c1 : CE} (h : chk X.N X.env.scope (.rev c1) e = true) (i1 : ∀ e, chk X.N X.env.scope c1 e = true → Good X C W e (ev Φ G c1)) : Good X C W e (ev Φ G (.rev c1)) := by
  rw [chk.eq_def] at h
  dsimp only at h
  split at h
  · rename_i x k p1 p2 p3 p4
    refine good_plain ((pe_rev a.hK (i1 x h).1).mono fun σ H Q q => ?_) rfl
    obtain ⟨ρ, Γ, S, st, rg, q⟩ := q
    rw [ev] at q
    refine tDE_bind st rg q fun d S1 x H1 n1 s1 r1 rg1 q1 => ?_
    obtain ⟨z, hz, q2⟩ := lift_fin q1
    exact ⟨ρ, S1, _, z, s1, r1.vw s1, hz, q2⟩
  · cases h
theorem RepD.ty {H : Hp} {ρ : Rg} {v : V} {d : D} {t : String} (hK : X.K = C.K) (h : RepD C H ρ v d) (e : typD d = some t) : TyX X.K H v (.type t) := by
  cases h with
  | non => cases e; exact .base .non
  | bl b => cases e; exact .base (.bl b)
  | int i => cases e; exact .base (.int i)
  | str s => cases e; exact .base (.str _)
  | tup h r =>
    cases e
    rcases h with ⟨h | ⟨o, h⟩, _⟩ | ⟨o, its, n, h1, h2, _⟩
    · exact .base (.tup h)
    · exact .fTuple h
    · exact .kTuple (by rw [hK]; exact h1) h2
  | lst h r => cases e; exact .base (.lst h.1)
  | dic h _ _ _ => cases e; exact .base (.dK h)
  | fn h => cases e
  | frz h _ => cases e
  | exc0 _ _ _ => cases e
  | exc1 _ _ _ _ _ _ => cases e
  | opq _ => cases e
  | adr _ => cases e
theorem ty_boot {T : String} (h : T ∈ ["str", "int", "bool", "tuple", "list"]) : bootBuiltins (T : Str) = some (.type T) ∧ (T : Str) ∈ bltNames ∧ (T : Str) ≠ "__name__" ∧ ((T : Str) == ("__debug__" : Str)) = false := by
  simp only [List.mem_cons, List.not_mem_nil, or_false] at h
  rcases h with rfl | rfl | rfl | rfl | rfl
  · exact ⟨boot_str, by decide, by decide, by decide⟩
  · exact ⟨boot_int, by decide, by decide, by decide⟩
  · exact ⟨boot_bool, by decide, by decide, by decide⟩
  · exact ⟨boot_tuple, by decide, by decide, by decide⟩
  · exact ⟨boot_list, by decide, by decide, by decide⟩
theorem g_isi (a : At X C Φ G W) {c1 : CE} {T : String} (h : chk X.N X.env.scope (.isi c1 T) e = true) (i1 : ∀ e, chk X.N X.env.scope c1 e = true → Good X C W e (ev Φ G c1)) : Good X C W e (ev Φ G (.isi c1 T)) := by
  rw [chk.eq_def] at h
  dsimp only at h
  split at h
  · rename_i x p y t p2 p3
    obtain ⟨h, h7⟩ := and2 h
    obtain ⟨h, h6⟩ := and2 h
    obtain ⟨h, h5⟩ := and2 h
    obtain ⟨h, h4⟩ := and2 h
    obtain ⟨h, h3⟩ := and2 h
    obtain ⟨h1, h2⟩ := and2 h
    rw [decide_eq_true_iff] at h1 h3 h5
    subst h1 h3
    obtain ⟨b1, b2, b3, b4⟩ := ty_boot h5
    obtain ⟨g1, _, _⟩ := gl_of h2
    obtain ⟨g2, _, _⟩ := gl_of h4
    have ht : PE X (.Name (T : Str) p2) (tC (.ty T)) := pe_bltn g2 (a.blt _ b2) b1 rfl b3 b4
    refine good_plain ((pe_callB call_isi g1 (a.blt _ (by decide)) boot_isinstance (pa_cons (i1 y h7).1 (pa_cons ht pa_nil) (star_of h6)) (by decide) (by decide) (star_of h6) rfl).mono fun σ H Q q => ?_) rfl
    obtain ⟨ρ, Γ, S, st, rg, q⟩ := q
    rw [ev] at q
    refine tDE_bind st rg q fun d S1 x H1 n1 s1 r1 rg1 q1 => ?_
    obtain ⟨z, hz, q2⟩ := lift_fin q1
    unfold isiD at hz
    cases ht1 : typD d with
    | none => rw [ht1] at hz; cases hz
    | some t =>
      rw [ht1] at hz
      simp only [Option.bind_some, Option.map_eq_some_iff] at hz
      obtain ⟨k, hk, rfl⟩ := hz
      have rd : RepD C H1 ρ x d := r1.d (by cases d <;> first | rfl | cases ht1)
      exact ⟨x, .ty T, .type t, .type T, k, rfl, .ty T, rd.ty a.hK ht1, kit_ty hk, q2 _ H1 (Nx.refl _ _) s1 (.bl _)⟩
  · cases h
end
end EK

set_option Elab.async false
set_option linter.all false
set_option maxRecDepth 100000
set_option maxHeartbeats 4000000
namespace L2
open PySem PySem.Spec
theorem HOk.adopt {P : Program} {w : World} {H : Hp} {h : Heap} {a : Addr} {o : HO} (x : HOk P w H h) (hn : H a = none) (new : ObjOk P w (upd H a o) h a o) : HOk P w (upd H a o) h := fun b u e => by
  by_cases hb : b = a
  · subst hb; rw [upd_same] at e; cases e; exact new
  · rw [upd_ne hb] at e
    exact (x b u e).stay (fun c v _ q => q) (fun c q => by rw [upd_ne (ne_of_none q hn)]; exact q) fun c xs q => by rw [upd_ne (ne_of_none q hn)]; exact q
/-- a pinned object of the heap is tracked from now on -/
theorem Inv.adopt {X : Cx} {pins : List (Addr × Obj)} {σ : St} {H : Hp} {s : Shared} {p : Addr} {ob : Obj} {o : HO} (I : Inv X (pins ++ [(p, ob)]) σ H s) (hy : X.s_0.heap.objs.size ≤ p) (hpn : ∀ q ∈ X.pn ++ pins, q.1 ≠ p) (hl : p ≠ X.env.locals)
    (hc : ∀ x c, X.env.cells.lookup x = some c → c ≠ p) (new : ObjOk X.prog X.w (upd H p o) s.heap p o) : Inv X pins σ (upd H p o) s := by
  have hp := I.pin (p, ob) (List.mem_append_right _ (List.mem_append_right _ (List.mem_singleton.mpr rfl)))
  have hn : H p = none := hp.2.1
  refine I.unpinned.call' (ch := [p]) rfl ⟨fun b u e _ _ _ => e, fun b u e _ _ _ => ⟨u.slots, by cases u; exact e⟩, fun b u e n hb => ?_, fun b u e _ => ⟨u, e⟩, fun b xs e => ?_, fun b u w e => ?_, fun b ps e => ?_⟩ (I.hok.adopt hn new) I.bare fun b hb => ?_
  · rw [upd_ne (fun z => hb (List.mem_singleton.mpr z))]; exact n
  · rw [upd_ne (ne_of_none e hn)]; exact e
  · rw [upd_ne (ne_of_none e hn)]; exact e
  · exact ⟨#[], by rw [upd_ne (ne_of_none e hn)]; simpa using e⟩
  · rw [List.mem_singleton.mp hb]
    exact ⟨.inr hy, hl, hc, hpn⟩
/-- {k: v, ..}: the dict is seen when its pairs are made -/
def tDispP (trs : List (TE × TE)) : TE := fun σ H Q => tPairs trs σ H fun ps H2 => ∃ kvs : List (Key × V), ps = kvs.map (fun kv => (kV kv.1, kv.2)) ∧ kvs.length ≤ 15 ∧ ∀ p, H2 p = none → Q (.ref p) (upd H2 p (.dK (mergeK [] kvs)))
theorem pe_dispP {X : Cx} {pos : Pos} {keys : List (Option Expr)} {values : List Expr} {trs : List (TE × TE)} (h : PPs X pos keys values trs) (hall : keys.all (·.isSome) = true) (hl : keys.length = values.length) (h0 : keys ≠ [])
    (h15 : keys.length ≤ 15) : PE X (.Dict keys values pos) (tDispP trs) := by
  refine ⟨fun pins s σ H Q I q => ?_⟩
  have hn := I.hok.fresh (Nat.le_refl s.heap.objs.size)
  have I0 : Inv X pins σ H { s with heap := s.heap.push { cls := .type "dict", data := .dict #[] } } := I.kept (t' := s.toks) fun b ob q => Heap.get?_push_of_some _ q
  have fo : FpOk X pins H s.heap.objs.size := I.fpOk (Nat.le_refl _) hn
  have I1 : Inv X (pins ++ [(s.heap.objs.size, { cls := .type "dict", data := .dict #[] })]) σ H { s with heap := s.heap.push { cls := .type "dict", data := .dict #[] } } := I0.pins_of fun p hp => by
    rcases List.mem_append.mp hp with hp | hp
    · exact I0.pin p (List.mem_append_right _ hp)
    · rw [List.mem_singleton.mp hp]
      exact ⟨Heap.get?_push_size _ rfl, hn, fo.2.1, fo.2.2.1, fun v z => by cases z⟩
  refine wpAny_Dict_walk (knd := mixKind X.prog X.w) hall hl h0 h15 (thn (h.run _ _ σ _ _ I1 q) fun ws s2 ⟨ps, H2, I2, rel, kvs, ep, lk, q2⟩ => ?_)
  subst ep
  obtain ⟨rs, c, rk⟩ := carries_of (P := X.prog) (w := X.w) rel
  have hp2 := I2.pin (s.heap.objs.size, { cls := .type "dict", data := .dict #[] }) (List.mem_append_right _ (List.mem_append_right _ (List.mem_singleton.mpr rfl)))
  have dd : s2.heap.DictOf (mixKind X.prog X.w) s.heap.objs.size [] := ⟨_, #[], 0, hp2.1, ⟨rfl, rfl, rfl⟩, rfl, fun _ he => by simp at he, Pairs.nil, List.nodup_nil⟩
  have hd : (s.heap.objs.size == sysModules) = false := beq_eq_false_iff_ne.mpr (Ne.symm (Nat.ne_of_lt I.big))
  have J : Inv X pins σ (upd H2 s.heap.objs.size (.dK [])) s2 := I2.adopt I.sz (fun p hp z => fo.2.2.2.2.2 p hp z) fo.2.1 fo.2.2.2.2.1 ⟨Nat.zero_le _, hd, [], .nil, dd⟩
  refine ⟨rs, c, dd, fun h' dd' hs => ⟨.ref s.heap.objs.size, upd H2 s.heap.objs.size (.dK (mergeK [] kvs)), ?_, rfl, q2 _ hp2.2.1⟩⟩
  have hz : (mergeK [] kvs).length ≤ sizeLine := by
    have h1 := length_mergeK kvs []
    rw [List.length_nil] at h1
    rw [sizeLine_eq]; omega
  have he : ∃ q, h'.get? s.heap.objs.size = some q := let ⟨q, _, _, hq, _⟩ := dd'; ⟨q, hq⟩
  have F := d_write (t' := s2.toks + ws.length) J (by rw [upd_same]; exact True.intro) hs he (dk_new hz hd (rk.merge .nil) dd')
  rw [upd_upd] at F
  exact F
end L2

namespace EK
open PySem L2 PySem.Spec PyProof.Rows
section
variable {X : Cx} {C : Ct} {Φ : Str → Option Fsem} {G : Str → Option D} {W : WX} {e : Expr} {f : Gam → Sto → R} {t : TE}
/-! ### methods -/
theorem join_eq' (s : List Nat) (ys : List (List Nat)) : Txt.join (mkS s) (ys.map mkS) = mkS (TL.joinL s ys) := by
  apply PySem.W.str_of_cps
  have h := TL.tl_join (mkS s) (ys.map mkS)
  rw [TL.join_eq]
  have e : (ys.map mkS).map TL.tl = ys := by
    rw [List.map_map]
    conv => rhs; rw [← List.map_id ys]
    apply List.map_congr_left
    intro y _
    rfl
  rw [e] at h
  exact h
theorem mt_joinP (hK : X.K = C.K) : MtR X "str.join" (fun x xs H Q => ∃ y, xs = [y] ∧ rP2 C joinD x y H Q) := by
  intro pins s σ H x xs v us Q I rx rs h
  obtain ⟨y, rfl, ρ, S, d, e, z, st, hx, hy, hg, q⟩ := h
  unfold joinD at hg
  split at hg
  · rename_i s0 xs0
    split at hg
    · rename_i ys e1
      split at hg
      · rename_i hl
        cases hg
        obtain rfl := hx.str
        obtain ⟨a, vs, rfl, ha, ra⟩ := hy.lst
        have ev := ra.strs e1
        subst ev
        refine mt_join pins s σ H _ _ v us Q I rx rs ⟨mkS s0, a, ys.map mkS, rfl, rfl, .inl (.inl (.inl ha)), ?_, ?_⟩
        · have e : (ys.map mkS).map (·.length) = ys.map (·.length) := by
            rw [List.map_map]
            apply List.map_congr_left
            intro y _
            exact str_len y
          rw [e, List.length_map, str_len]; exact hl
        · rw [join_eq']; exact fin0 st q (.str _)
      · cases hg
    · cases hg
  · rename_i s0 xs0
    split at hg
    · rename_i ys e1
      split at hg
      · rename_i hl
        cases hg
        obtain rfl := hx.str
        obtain ⟨a, vs, rfl, ha, ra⟩ := hy.tup
        have ev := ra.strs e1
        subst ev
        refine mt_join pins s σ H _ _ v us Q I rx rs ⟨mkS s0, a, ys.map mkS, rfl, rfl, .inr (by rw [hK]; exact ha.sq), ?_, ?_⟩
        · have e : (ys.map mkS).map (·.length) = ys.map (·.length) := by
            rw [List.map_map]
            apply List.map_congr_left
            intro y _
            exact str_len y
          rw [e, List.length_map, str_len]; exact hl
        · rw [join_eq']; exact fin0 st q (.str _)
      · cases hg
    · cases hg
  · cases hg
theorem RepA.idx {H : Hp} {ρ : Rg} {w : V} {e : D} (h' : RepD C H ρ w e) (he : flatD e = true) : ∀ {vs : List V} {ds : List D} {j : Nat}, RepA C H ρ vs ds → ds.all flatD = true → ds.findIdx? (fun x => eqFl x e) = some j →
    ∃ z, vs[j]? = some z ∧ eqV z w = true ∧ ∀ (m : Nat) (z' : V), m < j → vs[m]? = some z' → eqV z' w = false
  | _, _, _, .nil, _, h => by simp at h
  | _, _, j, .cons (v := v) (d := d) (ds := ds) r1 r2, a, h => by
    rw [List.all_cons, Bool.and_eq_true] at a
    rw [List.findIdx?_cons] at h
    have e1 := r1.eqFl a.1 h' he
    by_cases hd : eqFl d e = true
    · rw [if_pos hd] at h
      cases h
      exact ⟨v, rfl, e1.trans hd, fun m z' hm => absurd hm (Nat.not_lt_zero _)⟩
    · rw [if_neg hd] at h
      cases h2 : ds.findIdx? (fun x => eqFl x e) with
      | none => rw [h2] at h; cases h
      | some k =>
        rw [h2] at h
        cases h
        obtain ⟨z, h3, h4, h5⟩ := RepA.idx h' he r2 a.2 h2
        refine ⟨z, by simpa using h3, h4, fun m z' hm hz => ?_⟩
        cases m with
        | zero =>
          have : v = z' := by simpa using hz
          subst this
          rw [e1]; simpa using hd
        | succ m => exact h5 m z' (by have hm : m + 1 < k + 1 := hm; omega) (by simpa using hz)
theorem mt_indexP (hK : X.K = C.K) : MtR X "list.index" (fun x xs H Q => ∃ y, xs = [y] ∧ rP2 C indexD x y H Q) := by
  intro pins s σ H x xs v us Q I rx rs h
  obtain ⟨y, rfl, ρ, S, d, e, z, st, hx, hy, hg, q⟩ := h
  unfold indexD at hg
  split at hg
  · split at hg
    · rename_i hf
      rw [Option.map_eq_some_iff] at hg
      obtain ⟨j, hj, rfl⟩ := hg
      obtain ⟨a, vs, rfl, ha, ra⟩ := hx.lst
      have hd := hy.flatD hf.1
      obtain ⟨z, h1, h2, h3⟩ := RepA.idx hd hf.1 ra hf.2 hj
      exact mt_index pins s σ H _ _ v us Q I rx rs ⟨a, vs, y, j, z, rfl, rfl, .inl (.inl ha), hd.flat hf.1, ra.flat hf.2, h1, h2, h3, fin0 st q (.int _)⟩
    · cases hg
  · cases hg
theorem few_of {y : Expr} {env : Env} {cp : Pos} (h : plainB y = true) : ((backTo cp (starEach [y] env)).all (fun x => !x.1) && (backToKw cp (keywordEach [] env)).all (fun x => x.1.isSome) && decide (([y] : List Expr).length + ([] : List Keyword).length + (if ([] : List Keyword).isEmpty then 0 else 1) < 30)) = true := by
  rw [star_of h]; rfl
theorem cnt_eq (c : Nat) : ∀ l : List Nat, PyProof.Rows.cnt c l = ((l.count c : Nat) : Int)
  | [] => rfl
  | x :: l => by
    rw [List.count_cons, PyProof.Rows.cnt_cons, cnt_eq c l]
    by_cases h : x = c
    · simp [h]; omega
    · simp [h]
theorem mt_countP (hK : X.K = C.K) : MtR X "str.count" (fun x xs H Q => ∃ y, xs = [y] ∧ rP2 C countD x y H Q) := by
  intro pins s σ H x xs v us Q I rx rs h
  obtain ⟨y, rfl, ρ, S, d, e, z, st, hx, hy, hg, q⟩ := h
  unfold countD at hg
  split at hg
  · rename_i w c
    cases hg
    obtain rfl := hx.str
    obtain rfl := hy.str
    refine mt_count pins s σ H _ _ v us Q I rx rs ⟨_, _, rfl, rfl, ?_⟩
    have e : Txt.count ⟨w.toArray⟩ ⟨#[c]⟩ = ((w.count c : Nat) : Int) := by
      rw [count_cnt, cnt_eq]
    rw [e]
    exact fin0 st q (.int _)
  · cases hg
theorem repA_strs {H : Hp} {ρ : Rg} : ∀ ys : List (List Nat), RepA C H ρ ((ys.map mkS).map V.str) (ys.map D.str)
  | [] => .nil
  | y :: ys => .cons (.str y) (repA_strs ys)
theorem mt_splitP (hK : X.K = C.K) : MtR X "str.split" (fun x xs H Q => ∃ y, xs = [y] ∧ rP2 C splitD x y H Q) := by
  intro pins s σ H x xs v us Q I rx rs h
  obtain ⟨y, rfl, ρ, S, d, e, z, st, hx, hy, hg, q⟩ := h
  unfold splitD at hg
  split at hg
  · rename_i s0 t0
    split at hg
    · rename_i hc
      cases hg
      obtain rfl := hx.str
      obtain rfl := hy.str
      obtain ⟨h1, h2, h3⟩ := hc
      have e : Txt.split (mkS s0) (mkS t0) = (TL.spl t0 0 [] s0).map mkS := SX.split_S h1 h2
      refine mt_split pins s σ H _ _ v us Q I rx rs ⟨mkS s0, mkS t0, rfl, rfl, ?_, ?_, fun p hp => ?_⟩
      · rw [str_len]
        cases t0 with
        | nil => exact absurd rfl h1
        | cons _ _ => rfl
      · rw [str_len, szL_eq]; exact h3
      · rw [e]
        exact finL st q (repA_strs _) hp
    · cases hg
  · cases hg
theorem g_mth (a : At X C Φ G W) {m : Mf} {c1 c2 : CE} (h : chk X.N X.env.scope (.mth m c1 c2) e = true) (i1 : ∀ e, chk X.N X.env.scope c1 e = true → Good X C W e (ev Φ G c1)) (i2 : ∀ e, chk X.N X.env.scope c2 e = true → Good X C W e (ev Φ G c2)) :
    Good X C W e (ev Φ G (.mth m c1 c2)) := by
  rw [chk.eq_def] at h
  dsimp only at h
  split at h
  · rename_i x n ap y cp
    obtain ⟨h, h6⟩ := and2 h
    obtain ⟨h, h5⟩ := and2 h
    obtain ⟨h, h4⟩ := and2 h
    obtain ⟨h, h3⟩ := and2 h
    obtain ⟨h1, h2⟩ := and2 h
    cases m with
    | join =>
      dsimp only at h1
      rw [decide_eq_true_iff] at h1
      subst h1
      refine good_plain ((pe_m1 F.slot_str_join F.type_str_join (mt_joinP (C := C) a.hK) (i1 x h5).1 (i2 y h6).1 (star_of h3) (base_of h2) h4).mono fun σ H Q q => ?_) rfl
      obtain ⟨ρ, Γ, S, st, rg, q⟩ := q
      rw [ev] at q
      refine tDE_bind st rg q fun d S1 x H1 n1 s1 r1 rg1 q1 => ?_
      split at q1
      · rename_i hr
        refine ⟨?_, ?_⟩
        · cases hd : vw S1 d with
          | str w => have := r1.vw s1; rw [hd] at this; exact ⟨_, this.str⟩
          | _ => rw [hd] at hr; cases hr
        · refine tDE_bind s1 rg1 q1 fun e S2 y H2 n2 s2 r2 rg2 q2 => ?_
          obtain ⟨z, hz, q3⟩ := lift_fin q2
          exact ⟨y, rfl, ρ, S2, _, _, z, s2, (r1.nx0 n2).vw s2, r2.vw s2, hz, q3⟩
      · exact q1.elim
    | count =>
      dsimp only at h1
      rw [decide_eq_true_iff] at h1
      subst h1
      refine good_plain ((pe_m1 F.slot_str_count F.type_str_count (mt_countP (C := C) a.hK) (i1 x h5).1 (i2 y h6).1 (star_of h3) (base_of h2) h4).mono fun σ H Q q => ?_) rfl
      obtain ⟨ρ, Γ, S, st, rg, q⟩ := q
      rw [ev] at q
      refine tDE_bind st rg q fun d S1 x H1 n1 s1 r1 rg1 q1 => ?_
      split at q1
      · rename_i hr
        refine ⟨?_, ?_⟩
        · cases hd : vw S1 d with
          | str w => have := r1.vw s1; rw [hd] at this; exact ⟨_, this.str⟩
          | _ => rw [hd] at hr; cases hr
        · refine tDE_bind s1 rg1 q1 fun e S2 y H2 n2 s2 r2 rg2 q2 => ?_
          obtain ⟨z, hz, q3⟩ := lift_fin q2
          exact ⟨y, rfl, ρ, S2, _, _, z, s2, (r1.nx0 n2).vw s2, r2.vw s2, hz, q3⟩
      · exact q1.elim
    | split =>
      dsimp only at h1
      rw [decide_eq_true_iff] at h1
      subst h1
      refine good_plain ((pe_m1 F.slot_str_split F.type_str_split (mt_splitP (C := C) a.hK) (i1 x h5).1 (i2 y h6).1 (star_of h3) (base_of h2) h4).mono fun σ H Q q => ?_) rfl
      obtain ⟨ρ, Γ, S, st, rg, q⟩ := q
      rw [ev] at q
      refine tDE_bind st rg q fun d S1 x H1 n1 s1 r1 rg1 q1 => ?_
      split at q1
      · rename_i hr
        refine ⟨?_, ?_⟩
        · cases hd : vw S1 d with
          | str w => have := r1.vw s1; rw [hd] at this; exact ⟨_, this.str⟩
          | _ => rw [hd] at hr; cases hr
        · refine tDE_bind s1 rg1 q1 fun e S2 y H2 n2 s2 r2 rg2 q2 => ?_
          obtain ⟨z, hz, q3⟩ := lift_fin q2
          exact ⟨y, rfl, ρ, S2, _, _, z, s2, (r1.nx0 n2).vw s2, r2.vw s2, hz, q3⟩
      · exact q1.elim
    | index =>
      dsimp only at h1
      rw [decide_eq_true_iff] at h1
      subst h1
      refine good_plain ((pe_bm F.plainAttrs_list F.slot_list_index F.type_list_index (mt_indexP (C := C) a.hK) (i1 x h5).1 (pa_cons (i2 y h6).1 pa_nil (star_of h3)) (base_of h2) (few_of h3) h4 (star_of h3) rfl).mono fun σ H Q q => ?_) rfl
      obtain ⟨ρ, Γ, S, st, rg, q⟩ := q
      rw [ev] at q
      refine tDE_bind st rg q fun d S1 x H1 n1 s1 r1 rg1 q1 => ?_
      split at q1
      · rename_i hr
        refine ⟨?_, ?_⟩
        · cases hd : vw S1 d with
          | lst w =>
            have := r1.vw s1; rw [hd] at this
            obtain ⟨b, xs, rfl, hb, _⟩ := this.lst
            exact .inl ⟨rfl, xs, .inl (.inl hb)⟩
          | _ => rw [hd] at hr; cases hr
        · refine tDE_bind s1 rg1 q1 fun e S2 y H2 n2 s2 r2 rg2 q2 => ?_
          obtain ⟨z, hz, q3⟩ := lift_fin q2
          exact ⟨y, rfl, ρ, S2, _, _, z, s2, (r1.nx0 n2).vw s2, r2.vw s2, hz, q3⟩
      · exact q1.elim
  · cases h
theorem getK0 : ∀ {kvs : List (Key × V)} {es : List (Key × D)} {k : Key}, kvs.map (·.1) = es.map (·.1) → getK es k = none → valV kvs k = none := by
  intro kvs es k e h
  have : ∀ (es : List (Key × D)) (kvs : List (Key × V)), kvs.map (·.1) = es.map (·.1) → getK es k = none → valV kvs k = none := by
    intro es
    induction es with
    | nil => intro kvs e h; cases kvs with | nil => rfl | cons _ _ => cases e
    | cons q es ih =>
      intro kvs e h
      cases kvs with
      | nil => cases e
      | cons p kvs =>
        have e1 : p.1 = q.1 := (List.cons.inj e).1
        unfold getK at h
        unfold valV
        rw [List.find?_cons] at h ⊢
        rw [e1]
        by_cases hk : q.1 = k
        · rw [decide_eq_true hk] at h; cases h
        · rw [decide_eq_false hk] at h ⊢
          exact ih kvs (List.cons.inj e).2 h
  exact this es kvs e h
theorem g_dget (a : At X C Φ G W) {c1 c2 c3 : CE} (h : chk X.N X.env.scope (.dget c1 c2 c3) e = true) (i1 : ∀ e, chk X.N X.env.scope c1 e = true → Good X C W e (ev Φ G c1)) (i2 : ∀ e, chk X.N X.env.scope c2 e = true → Good X C W e (ev Φ G c2))
    (i3 : ∀ e, chk X.N X.env.scope c3 e = true → Good X C W e (ev Φ G c3)) : Good X C W e (ev Φ G (.dget c1 c2 c3)) := by
  rw [chk.eq_def] at h
  dsimp only at h
  split at h
  · rename_i x n ap y z cp
    obtain ⟨h, h8⟩ := and2 h
    obtain ⟨h, h7⟩ := and2 h
    obtain ⟨h, h6⟩ := and2 h
    obtain ⟨h, h5⟩ := and2 h
    obtain ⟨h, h4⟩ := and2 h
    obtain ⟨h, h3⟩ := and2 h
    obtain ⟨h1, h2⟩ := and2 h
    rw [decide_eq_true_iff] at h1
    subst h1
    have hm : M2 X x "get" ap y z cp := ⟨base_of h2, by rw [star_of h3, star_of h4]; rfl, h5, by rw [star_of h3, star_of h4]; rfl⟩
    refine good_plain ((pe_dget2 (by have := a.units; omega) (i1 x h6).1 (i2 y h7).1 (i3 z h8).1 hm).mono fun σ H Q q => ?_) rfl
    obtain ⟨ρ, Γ, S, st, rg, q⟩ := q
    rw [ev] at q
    refine tDE_bind st rg q fun d S1 x H1 n1 s1 r1 rg1 q1 => ?_
    split at q1
    · rename_i hr
      have hv := r1.vw s1
      cases hd : vw S1 d with
      | dic es =>
        rw [hd] at hv
        obtain ⟨b, kvs, rfl, hb, _, _⟩ := hv.dic
        refine ⟨b, rfl, .inl ⟨kvs, .inl hb⟩, ?_⟩
        refine tDE_bind s1 rg1 q1 fun e S2 y H2 n2 s2 r2 rg2 q2 => ?_
        refine tDE_bind s2 rg2 q2 fun f S3 z H3 n3 s3 r3 rg3 q3 => ?_
        split at q3
        · rename_i hf
          obtain ⟨w, hw, q4⟩ := lift_fin q3
          have hv3 := (r1.nx0 (n2.trans n3)).vw s3
          cases ed : vw S3 d with
          | dic es' =>
            rw [ed] at hv3 hw
            have hw : (keyD (vw S3 e)).map (fun q => (getK es' q).getD f) = some w := hw
            obtain ⟨b', kvs', eb, hb', ek', ra⟩ := hv3.dic
            cases eb
            rw [Option.map_eq_some_iff] at hw
            obtain ⟨kk, hkk, rfl⟩ := hw
            have hy := (r2.nx0 n3).vw s3
            have ey := hy.key hkk
            cases hg : getK es' kk with
            | none =>
              refine ⟨none, .inl ⟨kvs', kk, .inl hb', ey, (getK0 ek' hg).symm⟩, ?_⟩
              rw [hg] at q4
              exact q4 _ H3 (Nx.refl _ _) s3 (r3.d hf)
            | some dd =>
              obtain ⟨vv, h1, h2⟩ := RepA.getK ek' ra hg
              refine ⟨some vv, .inl ⟨kvs', kk, .inl hb', ey, h1.symm⟩, ?_⟩
              rw [hg] at q4
              exact q4 _ H3 (Nx.refl _ _) s3 h2
          | _ => rw [ed] at hw; cases hw
        · exact q3.elim
      | _ => rw [hd] at hr; cases hr
    · exact q1.elim
  · cases h
end
end EK

set_option Elab.async false
set_option linter.all false
set_option maxRecDepth 100000
set_option maxHeartbeats 4000000
namespace EK
open PySem L2 PySem.Spec PyProof.Rows
section
variable {X : Cx} {C : Ct} {Φ : Str → Option Fsem} {G : Str → Option D} {W : WX} {e : Expr} {f : Gam → Sto → R} {t : TE}
/-! ### what is walked -/
/-- the iterator J goes over these items, from the heap H₀ on -/
def ItOk (C : Ct) (J : It) (H₀ : Hp) (ρ₀ : Rg) (items : List D) : Prop := ∃ (g : Hp → Prop) (y : Nat → Hp → V → Hp → Prop), L2.Walk J items.length g y ∧ (∀ H ρ, Nx H₀ ρ₀ H ρ → g H) ∧
  ∀ i H ρ v H', Nx H₀ ρ₀ H ρ → (∀ a, a ∈ ρ → H a ≠ none) → y i H v H' → (H' = H ∨ ∃ T o, H T = none ∧ H' = upd H T o) ∧ ∃ d, items[i]? = some d ∧ RepD C H' ρ v d
def FinI (C : Ct) (W : WX) (ρ : Rg) (σ : L2.St) (H : Hp) (R : It → Hp → Prop) (ik : Ik) : RA → Prop
  | .ok ds S' => ∃ items, itD ik ds = some items ∧ ∀ J H', Nx H ρ H' ρ → StOk C H' ρ S' → ItOk C J H' ρ items → R J H'
  | .ex c d S' => ∀ (Ca dd : Addr) (v : V) (H' : Hp), C.mg c = some (.ref Ca) → Nx H ρ H' ρ → StOk C H' ρ S' → H' dd = some (.xd [(C.fld c, v)]) → dd ∉ ρ → RepD C H' ρ v d → W (.ref Ca) (some dd) σ H'
  | .bad => False
def tDI (C : Ct) (W : WX) (f : Gam → Sto → RA) (ik : Ik) : TI := fun σ H R => ∃ ρ Γ S, StOk C H ρ S ∧ RepG C H ρ σ Γ ∧ FinI C W ρ σ H R ik (f Γ S)
theorem _root_.L2.PI.mono {tg it : Expr} {w w' : TI} (h : PI X tg it w) (i : ∀ σ H R, w' σ H R → w σ H R) : PI X tg it w' := ⟨fun pins s σ H R I q => h.run pins s σ H R I (i σ H R q)⟩
/-- a list, a tuple or a text -/
def iAny (K : PySem.W.Frag) (te : TE) : TI := fun σ H R => te σ H fun x H1 => (∃ a, x = .ref a ∧ (∃ xs, SqL K H1 a xs) ∧ R (Itl K a) H1) ∨ (∃ a, x = .ref a ∧ (∃ xs, SqT K H1 a xs) ∧ R (Itt K a) H1) ∨ ∃ z, x = .str z ∧ R (Its z) H1
theorem pi_any {tg l : Expr} {te : TE} (hl : PE X l te) : PI X tg l (iAny X.K te) := by
  constructor
  intro pins s σ H R I h
  apply thn (hl.run pins s σ H _ I h)
  rintro v s1 ⟨x, H1, J, r1, q1⟩
  rcases q1 with ⟨a, rfl, ⟨xs, hq⟩, q⟩ | ⟨a, rfl, ⟨xs, hq⟩, q⟩ | ⟨z, rfl, q⟩
  · cases r1
    obtain ⟨its, _, pl, _⟩ := J.list hq
    exact wpAny_pyIter_list pl.isList (pi_one (tk := s1.toks) J _ (turn_list a _) ⟨_, Heap.get?_push_size _ rfl, rfl, rfl⟩ q)
  · cases r1
    obtain ⟨its, _, pl, _⟩ := J.tuple hq
    exact wpAny_pyIter_tuple (show s1.heap.IsTuple a its.toArray from pl) (pi_one (tk := s1.toks) J _ (turn_tuple a _) ⟨_, Heap.get?_push_size _ rfl, rfl, rfl⟩ q)
  · obtain ⟨t, rfl⟩ := r1
    by_cases ha : z.cps.all (· < 128) = true
    · exact wpAny_pyIter_ascii ha (pi_one (tk := s1.toks) J _ (turn_str _ z t _ (.inl rfl)) ⟨_, Heap.get?_push_size _ rfl, rfl, rfl⟩ q)
    · exact wpAny_pyIter_wide (by simpa using ha) (pi_one (tk := s1.toks) J _ (turn_str _ z t _ (.inr rfl)) ⟨_, Heap.get?_push_size _ rfl, rfl, rfl⟩ q)
theorem it_list {H : Hp} {ρ : Rg} {a : Addr} {xs : List V} {ds : List D} (hs : ∀ H' ρ', Nx H ρ H' ρ' → SqL C.K H' a xs) (r : RepA C H ρ xs ds) : ItOk C (Itl C.K a) H ρ ds := by
  refine ⟨fun H => SqL C.K H a xs, YAt xs, by rw [← r.length]; exact walk_list, fun H' ρ' n => hs H' ρ' n, fun i H' ρ' v H2 n _ y => ?_⟩
  obtain ⟨rfl, hi⟩ := y
  obtain ⟨d, h1, h2⟩ := (r.nx n).get hi
  exact ⟨.inl rfl, d, h1, h2⟩
theorem it_tup {H : Hp} {ρ : Rg} {a : Addr} {xs : List V} {ds : List D} (h : TupAt C H ρ a xs) (r : RepA C H ρ xs ds) : ItOk C (Itt C.K a) H ρ ds := by
  refine ⟨fun H => SqT C.K H a xs, YAt xs, by rw [← r.length]; exact walk_tup, fun H' ρ' n => (h.nx n).sq, fun i H' ρ' v H2 n _ y => ?_⟩
  obtain ⟨rfl, hi⟩ := y
  obtain ⟨d, h1, h2⟩ := (r.nx n).get hi
  exact ⟨.inl rfl, d, h1, h2⟩
theorem it_str {H : Hp} {ρ : Rg} (s : List Nat) : ItOk C (Its (mkS s)) H ρ (s.map fun c => .str [c]) := by
  refine ⟨fun _ => True, fun i H v H' => H' = H ∧ ∃ c, (mkS s).cps[i]? = some c ∧ v = .str ⟨#[c]⟩, ?_, fun _ _ _ => trivial, fun i H' ρ' v H2 n _ y => ?_⟩
  · have h := walk_str (z := mkS s)
    have e : (mkS s).cps.size = (s.map fun c => D.str [c]).length := by simp
    rw [← e]; exact h
  · obtain ⟨rfl, c, hc, rfl⟩ := y
    refine ⟨.inl rfl, .str [c], ?_, .str [c]⟩
    have hc : s[i]? = some c := by simpa using hc
    rw [List.getElem?_map, hc]; rfl
theorem rng_get (lo : Int) (n i : Nat) (h : i < n) : (rngL lo n)[i]? = some (.int (lo + (i : Int))) := by
  unfold rngL
  rw [List.getElem?_map, List.getElem?_range h]; rfl
theorem it_rng {H : Hp} {ρ : Rg} (lo : Int) (n : Nat) : ItOk C (Itr lo n) H ρ (rngL lo n) := by
  refine ⟨fun _ => True, fun i H v H' => i < n ∧ YFn (fun i => .int (lo + i)) i H v H', ?_, fun _ _ _ => trivial, fun i H' ρ' v H2 _ _ y => ?_⟩
  · have e : (rngL lo n).length = n := by unfold rngL; simp
    rw [e]
    have w := walk_range (lo := lo) (n := n)
    exact ⟨w.goes, w.stops, fun i H x H' hi g y => ⟨hi, w.yields i H x H' hi g y⟩⟩
  · obtain ⟨hi, rfl, rfl⟩ := y
    exact ⟨.inl rfl, _, rng_get lo n i hi, .int _⟩
theorem it_rngS {H : Hp} {ρ : Rg} (lo c : Int) (n : Nat) : ItOk C (Itc lo c n) H ρ (rngS lo c n) := by
  refine ⟨fun _ => True, fun i H v H' => i < n ∧ YFn (fun i => .int (lo + (i : Nat) * c)) i H v H', ?_, fun _ _ _ => trivial, fun i H' ρ' v H2 _ _ y => ?_⟩
  · have e : (rngS lo c n).length = n := by unfold rngS; simp
    rw [e]
    have w := walk_rangeC (lo := lo) (c := c) (n := n)
    exact ⟨w.goes, w.stops, fun i H x H' hi g y => ⟨hi, w.yields i H x H' hi g y⟩⟩
  · obtain ⟨hi, rfl, rfl⟩ := y
    refine ⟨.inl rfl, _, ?_, .int _⟩
    unfold rngS
    rw [List.getElem?_map, List.getElem?_range hi]; rfl
theorem pairs_len : ∀ xs ys : List D, (pairs xs ys).length = min xs.length ys.length
  | [], _ => by simp [pairs]
  | _ :: _, [] => by simp [pairs]
  | x :: xs, y :: ys => by rw [pairs, List.length_cons, pairs_len xs ys, List.length_cons, List.length_cons]; omega
theorem pairs_get : ∀ {xs ys : List D} {i : Nat} {x y : D}, xs[i]? = some x → ys[i]? = some y → (pairs xs ys)[i]? = some (.tup [x, y])
  | [], _, _, _, _, h, _ => by simp at h
  | _ :: _, [], _, _, _, _, h => by simp at h
  | a :: xs, b :: ys, 0, x, y, h1, h2 => by simp at h1 h2; subst h1 h2; rfl
  | a :: xs, b :: ys, i + 1, x, y, h1, h2 => by rw [pairs, List.getElem?_cons_succ]; exact pairs_get (by simpa using h1) (by simpa using h2)
theorem new_pair {H : Hp} {ρ : Rg} {T : Addr} {x y : V} {d e : D} (hT : H T = none) (hρ : ∀ a, a ∈ ρ → H a ≠ none) (r1 : RepD C H ρ x d) (r2 : RepD C H ρ y e) : RepD C (upd H T (.tup [x, y])) ρ (.ref T) (.tup [d, e]) :=
  .tup (.inl ⟨.inl upd_same, fun z => hρ T z hT⟩) (.cons (r1.nx (Nx.new hT)) (.cons (r2.nx (Nx.new hT)) .nil))
/-- such a thing stays as it is, and so do its items -/
def Stay (C : Ct) (H : Hp) (ρ : Rg) (k : Kd) (xs : List V) (ds : List D) : Prop := ∀ H' ρ', Nx H ρ H' ρ' → k.at_ C.K H' xs ∧ RepA C H' ρ' xs ds
theorem repA_signs {H : Hp} {ρ : Rg} : ∀ s : List Nat, RepA C H ρ (s.map fun c => V.str ⟨#[c]⟩) (s.map fun c => D.str [c])
  | [] => .nil
  | c :: s => .cons (.str [c]) (repA_signs s)
theorem seq_kd {H : Hp} {ρ : Rg} {v : V} {d : D} {ds : List D} (h : Rep C H ρ v d) (e : seqD d = some ds) : ∃ k xs, v = Kd.v k ∧ Stay C H ρ k xs ds := by
  rcases h with h | ⟨k, a, rfl, _, _⟩
  · cases h with
    | str s =>
      cases e
      refine ⟨.s (mkS s), _, rfl, fun H' ρ' n => ⟨rfl, ?_⟩⟩
      have : (mkS s).cps.toList = s := by simp
      rw [this]
      exact repA_signs s
    | tup h r => cases e; exact ⟨.t _, _, rfl, fun H' ρ' n => ⟨(h.nx n).sq, r.nx n⟩⟩
    | lst h r => cases e; exact ⟨.l _, _, rfl, fun H' ρ' n => ⟨(h.nx n).sq, r.nx n⟩⟩
    | frz h r => cases e; exact ⟨.l _, _, rfl, fun H' ρ' n => ⟨(FrzAt.nw n.w h).sq, r.nx n⟩⟩
    | _ => cases e
  · cases e
theorem stay_len {H : Hp} {ρ : Rg} {k : Kd} {xs : List V} {ds : List D} (h : Stay C H ρ k xs ds) : xs.length = ds.length := (h H ρ (Nx.refl _ _)).2.length
theorem it_z2 {H : Hp} {ρ : Rg} {k1 k2 : Kd} {xs ys : List V} {ds es : List D} (h1 : Stay C H ρ k1 xs ds) (h2 : Stay C H ρ k2 ys es) : ItOk C (Itz2 C.K k1 k2) H ρ (pairs ds es) := by
  refine ⟨fun H => k1.at_ C.K H xs ∧ k2.at_ C.K H ys, fun i H v H' => ∃ T x y, v = .ref T ∧ H T = none ∧ H' = upd H T (.tup [x, y]) ∧ xs[i]? = some x ∧ ys[i]? = some y, ⟨fun i H hi g => ⟨xs, ys, g.1, g.2, ?_⟩, fun H g => ⟨xs, ys, g.1, g.2, ?_⟩, fun i H v H' _ g y => ?_⟩, fun H' ρ' n => ⟨(h1 H' ρ' n).1, (h2 H' ρ' n).1⟩, fun i H' ρ' v H2 n hρ y => ?_⟩
  · rw [pairs_len] at hi; rw [stay_len h1, stay_len h2]; exact hi
  · rw [pairs_len, stay_len h1, stay_len h2]
  · obtain ⟨T, x, z, e1, e2, e3, e4, e5⟩ := y
    exact ⟨T, x, z, e1, e2, e3, e4 xs g.1, e5 ys g.2⟩
  · obtain ⟨T, x, z, rfl, hT, rfl, hx, hz⟩ := y
    obtain ⟨d, q1, q2⟩ := (h1 H' ρ' n).2.get hx
    obtain ⟨e, q3, q4⟩ := (h2 H' ρ' n).2.get hz
    exact ⟨.inr ⟨T, _, hT, rfl⟩, _, pairs_get q1 q3, new_pair hT hρ q2 q4⟩
theorem trips_len : ∀ xs ys zs : List D, (trips xs ys zs).length = min (min xs.length ys.length) zs.length
  | [], _, _ => by simp [trips]
  | _ :: _, [], _ => by simp [trips]
  | _ :: _, _ :: _, [] => by simp [trips]
  | x :: xs, y :: ys, z :: zs => by rw [trips, List.length_cons, List.length_cons, List.length_cons, List.length_cons, trips_len xs ys zs]; omega
theorem trips_get : ∀ {xs ys zs : List D} {i : Nat} {x y z : D}, xs[i]? = some x → ys[i]? = some y → zs[i]? = some z → (trips xs ys zs)[i]? = some (.tup [x, y, z])
  | [], _, _, _, _, _, _, h, _, _ => by simp at h
  | _ :: _, [], _, _, _, _, _, _, h, _ => by simp at h
  | _ :: _, _ :: _, [], _, _, _, _, _, _, h => by simp at h
  | a :: xs, b :: ys, c :: zs, 0, x, y, z, h1, h2, h3 => by simp at h1 h2 h3; subst h1 h2 h3; rfl
  | a :: xs, b :: ys, c :: zs, i + 1, x, y, z, h1, h2, h3 => by rw [trips, List.getElem?_cons_succ]; exact trips_get (by simpa using h1) (by simpa using h2) (by simpa using h3)
theorem it_z3 {H : Hp} {ρ : Rg} {k1 k2 k3 : Kd} {xs ys zs : List V} {ds es fs : List D} (h1 : Stay C H ρ k1 xs ds) (h2 : Stay C H ρ k2 ys es) (h3 : Stay C H ρ k3 zs fs) : ItOk C (Itz3 C.K k1 k2 k3) H ρ (trips ds es fs) := by
  refine ⟨fun H => k1.at_ C.K H xs ∧ k2.at_ C.K H ys ∧ k3.at_ C.K H zs, fun i H v H' => ∃ T x y z, v = .ref T ∧ H T = none ∧ H' = upd H T (.tup [x, y, z]) ∧ xs[i]? = some x ∧ ys[i]? = some y ∧ zs[i]? = some z, ⟨fun i H hi g => ⟨xs, ys, zs, g.1, g.2.1, g.2.2, ?_⟩, fun H g => ⟨xs, ys, zs, g.1, g.2.1, g.2.2, ?_⟩, fun i H v H' _ g y => ?_⟩, fun H' ρ' n => ⟨(h1 H' ρ' n).1, (h2 H' ρ' n).1, (h3 H' ρ' n).1⟩, fun i H' ρ' v H2 n hρ y => ?_⟩
  · rw [trips_len] at hi; rw [stay_len h1, stay_len h2, stay_len h3]; exact hi
  · rw [trips_len, stay_len h1, stay_len h2, stay_len h3]
  · obtain ⟨T, x, z, u, e1, e2, e3, e4, e5, e6⟩ := y
    exact ⟨T, x, z, u, e1, e2, e3, e4 xs g.1, e5 ys g.2.1, e6 zs g.2.2⟩
  · obtain ⟨T, x, z, u, rfl, hT, rfl, hx, hz, hu⟩ := y
    obtain ⟨d, q1, q2⟩ := (h1 H' ρ' n).2.get hx
    obtain ⟨e, q3, q4⟩ := (h2 H' ρ' n).2.get hz
    obtain ⟨f, q5, q6⟩ := (h3 H' ρ' n).2.get hu
    exact ⟨.inr ⟨T, _, hT, rfl⟩, _, trips_get q1 q3 q5, .tup (.inl ⟨.inl upd_same, fun z => hρ T z hT⟩) (.cons (q2.nx (Nx.new hT)) (.cons (q4.nx (Nx.new hT)) (.cons (q6.nx (Nx.new hT)) .nil)))⟩
theorem enum_len : ∀ (xs : List D) (n : Nat), (enumFrom n xs).length = xs.length
  | [], _ => rfl
  | x :: xs, n => by rw [enumFrom, List.length_cons, List.length_cons, enum_len xs]
theorem enum_get : ∀ {xs : List D} {n i : Nat} {x : D}, xs[i]? = some x → (enumFrom n xs)[i]? = some (.tup [.int ((n + i : Nat) : Int), x])
  | [], _, _, _, h => by simp at h
  | a :: xs, n, 0, x, h => by simp at h; subst h; rfl
  | a :: xs, n, i + 1, x, h => by
    rw [enumFrom, List.getElem?_cons_succ, enum_get (n := n + 1) (i := i) (by simpa using h)]
    have : n + 1 + i = n + (i + 1) := by omega
    rw [this]
theorem it_en {H : Hp} {ρ : Rg} {k : Kd} {xs : List V} {ds : List D} (h1 : Stay C H ρ k xs ds) : ItOk C (Iten C.K k) H ρ (enumFrom 0 ds) := by
  refine ⟨fun H => k.at_ C.K H xs, fun i H v H' => ∃ T x, v = .ref T ∧ H T = none ∧ H' = upd H T (.tup [.int (i : Nat), x]) ∧ xs[i]? = some x, ⟨fun i H hi g => ⟨xs, g, ?_⟩, fun H g => ⟨xs, g, ?_⟩, fun i H v H' _ g y => ?_⟩, fun H' ρ' n => (h1 H' ρ' n).1, fun i H' ρ' v H2 n hρ y => ?_⟩
  · rw [enum_len] at hi; rw [stay_len h1]; exact hi
  · rw [enum_len, stay_len h1]
  · obtain ⟨T, x, e1, e2, e3, e4⟩ := y
    exact ⟨T, x, e1, e2, e3, e4 xs g⟩
  · obtain ⟨T, x, rfl, hT, rfl, hx⟩ := y
    obtain ⟨d, q1, q2⟩ := (h1 H' ρ' n).2.get hx
    have := enum_get (n := 0) q1
    rw [Nat.zero_add] at this
    exact ⟨.inr ⟨T, _, hT, rfl⟩, _, this, new_pair hT hρ (.int _) q2⟩

theorem tDI_bind {f : Gam → Sto → RA} {ik : Ik} {σ : L2.St} {H : Hp} {R : It → Hp → Prop} {Q' : List V → Hp → Prop} (h : tDI C W f ik σ H R)
    (hk : ∀ (ρ : Rg) ds items S' vs H', itD ik ds = some items → StOk C H' ρ S' → Paired (Rep C H' ρ) vs ds → (∀ J, ItOk C J H' ρ items → R J H') → Q' vs H') : tDA C W f σ H Q' := by
  obtain ⟨ρ, Γ, S, st, rg, h⟩ := h
  refine ⟨ρ, Γ, S, st, rg, ?_⟩
  cases e : f Γ S with
  | ok d S' =>
    rw [e] at h
    obtain ⟨items, h1, h2⟩ := h
    exact fun v H' n s r => hk ρ d items S' v H' h1 s r fun J j => h2 J H' n s j
  | ex c d S' => rw [e] at h; exact h
  | bad => rw [e] at h; exact h
theorem pr1 {H : Hp} {ρ : Rg} {vs : List V} {d : D} (h : Paired (Rep C H ρ) vs [d]) : ∃ v, vs = [v] ∧ Rep C H ρ v d := by
  cases h with | cons h r => cases r; exact ⟨_, rfl, h⟩
theorem pr2 {H : Hp} {ρ : Rg} {vs : List V} {d e : D} (h : Paired (Rep C H ρ) vs [d, e]) : ∃ v w, vs = [v, w] ∧ Rep C H ρ v d ∧ Rep C H ρ w e := by
  cases h with | cons h r => obtain ⟨w, rfl, h2⟩ := pr1 r; exact ⟨_, _, rfl, h, h2⟩
theorem pr3 {H : Hp} {ρ : Rg} {vs : List V} {d e f : D} (h : Paired (Rep C H ρ) vs [d, e, f]) : ∃ v w u, vs = [v, w, u] ∧ Rep C H ρ v d ∧ Rep C H ρ w e ∧ Rep C H ρ u f := by
  cases h with | cons h r => obtain ⟨w, u, rfl, h2, h3⟩ := pr2 r; exact ⟨_, _, _, rfl, h, h2, h3⟩
theorem Rep.int {H : Hp} {ρ : Rg} {v : V} {i : Int} (h : Rep C H ρ v (.int i)) : v = .int i := by
  rcases h with h | ⟨_, _, z, _⟩
  · cases h; rfl
  · cases z
theorem Rep.lstA {H : Hp} {ρ : Rg} {v : V} {ds : List D} (h : Rep C H ρ v (.lst ds)) : ∃ a xs, v = .ref a ∧ LstAt H ρ a xs ∧ RepA C H ρ xs ds := by
  rcases h with h | ⟨_, _, z, _⟩
  · cases h with | lst h r => exact ⟨_, _, rfl, h, r⟩
  · cases z
/-- an expression that is walked -/
theorem pi_seqP (a : At X C Φ G W) {tg l : Expr} {c : CE} (g : Good X C W l (ev Φ G c)) : PI X tg l (tDI C W (evs Φ G [c]) .seq) := by
  refine (pi_any g.1).mono fun σ H R q => ?_
  obtain ⟨ρ, Γ, S, st, rg, q⟩ := q
  rw [evs] at q
  refine ⟨ρ, Γ, S, st, rg, ?_⟩
  cases e : ev Φ G c Γ S with
  | bad => rw [e] at q; exact q
  | ex c d S' => rw [e] at q; exact q
  | ok d S1 =>
    rw [e] at q
    simp only [evs] at q
    obtain ⟨items, hi, q⟩ := q
    intro v H1 n1 s1 r1
    rw [a.hK]
    unfold itD at hi
    split at hi <;> first | (cases hi; done) | skip
    · rename_i hk hd
      cases hd
      cases hi
      obtain ⟨b, xs, rfl, hb, ra⟩ := r1.lstA
      exact .inl ⟨b, rfl, ⟨xs, hb.sq⟩, q _ H1 n1 s1 (it_list (fun H' ρ' n => (hb.nx n).sq) ra)⟩
    · rename_i hk hd
      cases hd
      cases hi
      rcases r1 with r1 | ⟨_, _, z, _⟩
      · cases r1 with
        | frz h ra => exact .inl ⟨_, rfl, ⟨_, h.sq⟩, q _ H1 n1 s1 (it_list (fun H' ρ' n => (h.nw n.w).sq) ra)⟩
      · cases z
    · rename_i hk hd
      cases hd
      cases hi
      rcases r1 with r1 | ⟨_, _, z, _⟩
      · cases r1 with
        | tup h ra => exact .inr (.inl ⟨_, rfl, ⟨_, h.sq⟩, q _ H1 n1 s1 (it_tup h ra)⟩)
      · cases z
    · rename_i hk hd
      cases hd
      cases hi
      rcases r1 with r1 | ⟨_, _, z, _⟩
      · cases r1
        exact .inr (.inr ⟨_, rfl, q _ H1 n1 s1 (it_str _)⟩)
      · cases z
    all_goals (rename_i hk _; cases hk)
theorem rgc_neg {a b : Int} (h1 : -(2 ^ 62) ≤ a) (h2 : a < 2 ^ 62) (h3 : -(2 ^ 62) ≤ b) (h4 : b < 2 ^ 62) : RgC a b (-1) (a - b).toNat := by
  first
  | exact RgC.neg h1 h2 h3 h4
  | exact RgC.neg ⟨h1, h2⟩ ⟨h3, h4⟩
  | exact RgC.neg ⟨h1, h2, h3, h4⟩
end
end EK

set_option Elab.async false
set_option linter.all false
set_option maxRecDepth 100000
set_option maxHeartbeats 4000000
namespace EK
open PySem L2 PySem.Spec PyProof.Rows
section
variable {X : Cx} {C : Ct} {Φ : Str → Option Fsem} {G : Str → Option D} {W : WX} {e : Expr} {f : Gam → Sto → R} {t : TE}
theorem rng_it {ds items : List D} (h : itD .rng ds = some items) : (∃ n, ds = [.int n] ∧ in62 n = true ∧ items = rngL 0 n.toNat) ∨ (∃ a b, ds = [.int a, .int b] ∧ in62 a = true ∧ in62 b = true ∧ items = rngL a (b - a).toNat) ∨
    ∃ a b, ds = [.int a, .int b, .int (-1)] ∧ in62 a = true ∧ in62 b = true ∧ items = rngS a (-1) (a - b).toNat := by
  unfold itD at h
  split at h
  all_goals first | (rename_i hk; cases hk; done) | skip
  · split at h
    · rename_i hc; cases h; exact .inl ⟨_, rfl, hc, rfl⟩
    · cases h
  · split at h
    · rename_i hc; cases h; exact .inr (.inl ⟨_, _, rfl, hc.1, hc.2, rfl⟩)
    · cases h
  · split at h
    · rename_i hc
      cases h
      obtain ⟨rfl, h1, h2⟩ := hc
      exact .inr (.inr ⟨_, _, rfl, h1, h2, rfl⟩)
    · cases h
  · cases h
theorem evs_len : ∀ {cs : List CE} {Γ : Gam} {S S' : Sto} {ds : List D}, evs Φ G cs Γ S = .ok ds S' → ds.length = cs.length
  | [], _, _, _, _, h => by rw [evs] at h; cases h; rfl
  | c :: cs, Γ, S, S', ds, h => by
    rw [evs] at h
    split at h
    · split at h
      · rename_i e2; cases h; rw [List.length_cons, List.length_cons, evs_len e2]
      · cases h
      · cases h
    · cases h
    · cases h
theorem chks_len : ∀ {cs : List CE} {es : List Expr} {sc : Scope} {N : List Str}, chks N sc cs es = true → cs.length = es.length
  | [], es, sc, N, h => by
    rw [chks.eq_def] at h
    dsimp only at h
    have : es = [] := by cases es with | nil => rfl | cons _ _ => cases h
    subst this; rfl
  | c :: cs, es, sc, N, h => by
    rw [chks.eq_def] at h
    dsimp only at h
    split at h
    · obtain ⟨h, h3⟩ := and2 h
      rw [List.length_cons, List.length_cons, chks_len h3]
    · cases h
/-- the reading's data have the arguments' number -/
theorem tDI_len {cs : List CE} {ik : Ik} {σ : L2.St} {H : Hp} {R : It → Hp → Prop} {Q' : List V → Hp → Prop} (h : tDI C W (evs Φ G cs) ik σ H R)
    (hk : ∀ (ρ : Rg) ds items S' vs H', ds.length = cs.length → itD ik ds = some items → StOk C H' ρ S' → Paired (Rep C H' ρ) vs ds → (∀ J, ItOk C J H' ρ items → R J H') → Q' vs H') : tDA C W (evs Φ G cs) σ H Q' := by
  obtain ⟨ρ, Γ, S, st, rg, h⟩ := h
  refine ⟨ρ, Γ, S, st, rg, ?_⟩
  cases e : evs Φ G cs Γ S with
  | ok d S' =>
    rw [e] at h
    obtain ⟨items, h1, h2⟩ := h
    exact fun v H' n s r => hk ρ d items S' v H' (evs_len e) h1 s r fun J j => h2 J H' n s j
  | ex c d S' => rw [e] at h; exact h
  | bad => rw [e] at h; exact h
theorem pi_rngP (a : At X C Φ G W) {tg : Expr} {p pos : Pos} {args : List CE} {es : List Expr} (hg : Gl X "range") (h : chks X.N X.env.scope args es = true) (h1 : 1 ≤ es.length) (h3 : es.length ≤ 3) (g : GoodA X C W es (evs Φ G args)) :
    PI X tg (.Call (.Name "range" p) es [] pos) (tDI C W (evs Φ G args) .rng) := by
  have hl := chks_len h
  have hm : X.mg "range" = none := a.blt _ (by decide)
  match es, hl, h1, h3, h, g with
  | [x], hl, _, _, h, g =>
    obtain ⟨e1, e2⟩ := args_facts (env := X.env) (pos := pos) h
    refine (pi_range1 hg hm g e1).mono fun σ H R q => tDI_len q fun ρ ds items S' vs H' hd hi st r k => ?_
    rw [hl] at hd
    rcases rng_it hi with ⟨n, rfl, hn, rfl⟩ | ⟨a, b, rfl, _⟩ | ⟨a, b, rfl, _⟩
    · obtain ⟨v, rfl, hv⟩ := pr1 r
      obtain rfl := hv.int
      obtain ⟨n1, n2⟩ := in62_iff.mp hn
      exact ⟨n, rfl, n1, n2, k _ (it_rng 0 n.toNat)⟩
    · cases hd
    · cases hd
  | [x, y], hl, _, _, h, g =>
    obtain ⟨c, cs, rfl⟩ := chks_head h
    obtain ⟨hx, _, ht⟩ := chks_tail h
    obtain ⟨c2, cs2, rfl⟩ := chks_head ht
    obtain ⟨hy, _, _⟩ := chks_tail ht
    refine (pi_range2 hg hm g (by rw [star_of hx, star_of hy]; rfl) (star_of hy)).mono fun σ H R q => tDI_len q fun ρ ds items S' vs H' hd hi st r k => ?_
    rw [hl] at hd
    rcases rng_it hi with ⟨n, rfl, hn, rfl⟩ | ⟨a, b, rfl, ha, hb, rfl⟩ | ⟨a, b, rfl, _⟩
    · cases hd
    · obtain ⟨v, w, rfl, hv, hw⟩ := pr2 r
      obtain rfl := hv.int
      obtain rfl := hw.int
      obtain ⟨n1, n2⟩ := in62_iff.mp ha
      obtain ⟨n3, n4⟩ := in62_iff.mp hb
      exact ⟨a, b, rfl, ⟨n1, n2, n3, n4⟩, k _ (it_rng a _)⟩
    · cases hd
  | [x, y, z], hl, _, _, h, g =>
    obtain ⟨e1, e2⟩ := args_facts (env := X.env) (pos := pos) h
    refine (pi_range3 hg hm g e1 e2).mono fun σ H R q => tDI_len q fun ρ ds items S' vs H' hd hi st r k => ?_
    rw [hl] at hd
    rcases rng_it hi with ⟨n, rfl, hn, rfl⟩ | ⟨a, b, rfl, _⟩ | ⟨a, b, rfl, ha, hb, rfl⟩
    · cases hd
    · cases hd
    · obtain ⟨v, w, u, rfl, hv, hw, hu⟩ := pr3 r
      obtain rfl := hv.int
      obtain rfl := hw.int
      obtain rfl := hu.int
      obtain ⟨n1, n2⟩ := in62_iff.mp ha
      obtain ⟨n3, n4⟩ := in62_iff.mp hb
      exact ⟨a, b, -1, (a - b).toNat, rfl, rgc_neg n1 n2 n3 n4, k _ (it_rngS a (-1) _)⟩
theorem zip2_it {ds items : List D} (h : itD .zip ds = some items) (hl : ds.length = 2) : ∃ a b xs ys, ds = [a, b] ∧ seqD a = some xs ∧ seqD b = some ys ∧ items = pairs xs ys := by
  match ds, hl with
  | [a, b], _ =>
    unfold itD at h
    dsimp only at h
    split at h
    · rename_i xs ys e1 e2; cases h; exact ⟨a, b, xs, ys, rfl, e1, e2, rfl⟩
    · cases h
theorem zip3_it {ds items : List D} (h : itD .zip ds = some items) (hl : ds.length = 3) : ∃ a b c xs ys zs, ds = [a, b, c] ∧ seqD a = some xs ∧ seqD b = some ys ∧ seqD c = some zs ∧ items = trips xs ys zs := by
  match ds, hl with
  | [a, b, c], _ =>
    unfold itD at h
    dsimp only at h
    split at h
    · rename_i xs ys zs e1 e2 e3; cases h; exact ⟨a, b, c, xs, ys, zs, rfl, e1, e2, e3, rfl⟩
    · cases h
theorem enm_it {ds items : List D} (h : itD .enm ds = some items) (hl : ds.length = 1) : ∃ a xs, ds = [a] ∧ seqD a = some xs ∧ items = enumFrom 0 xs := by
  match ds, hl with
  | [a], _ =>
    unfold itD at h
    dsimp only at h
    split at h
    · rename_i xs e1; cases h; exact ⟨a, xs, rfl, e1, rfl⟩
    · cases h
theorem pi_zipP (a : At X C Φ G W) {elts : List Expr} {kk : Nat} {tp p pos : Pos} {args : List CE} {x y : Expr} (hg : Gl X "zip") (h : chks X.N X.env.scope args [x, y] = true) (g : GoodA X C W [x, y] (evs Φ G args)) :
    PI X (.Tuple elts kk tp) (.Call (.Name "zip" p) [x, y] [] pos) (tDI C W (evs Φ G args) .zip) := by
  have hl := chks_len h
  obtain ⟨e1, e2⟩ := args_facts (env := X.env) (pos := pos) h
  refine (pi_z2 hg (a.blt _ (by decide)) g e1 e2).mono fun σ H R q => tDI_len q fun ρ ds items S' vs H' hd hi st r k => ?_
  obtain ⟨d1, d2, xs, ys, rfl, s1, s2, rfl⟩ := zip2_it hi (by rw [hd, hl]; rfl)
  obtain ⟨v, w, rfl, hv, hw⟩ := pr2 r
  obtain ⟨k1, us, rfl, t1⟩ := seq_kd hv s1
  obtain ⟨k2, ws, rfl, t2⟩ := seq_kd hw s2
  rw [a.hK]
  exact ⟨k1, k2, us, ws, rfl, (t1 _ _ (Nx.refl _ _)).1, (t2 _ _ (Nx.refl _ _)).1, k _ (it_z2 t1 t2)⟩
theorem pi_zip3P (a : At X C Φ G W) {elts : List Expr} {kk : Nat} {tp p pos : Pos} {args : List CE} {x y z : Expr} (hg : Gl X "zip") (h : chks X.N X.env.scope args [x, y, z] = true) (g : GoodA X C W [x, y, z] (evs Φ G args)) :
    PI X (.Tuple elts kk tp) (.Call (.Name "zip" p) [x, y, z] [] pos) (tDI C W (evs Φ G args) .zip) := by
  have hl := chks_len h
  obtain ⟨e1, e2⟩ := args_facts (env := X.env) (pos := pos) h
  refine (pi_z3 hg (a.blt _ (by decide)) g e1 e2).mono fun σ H R q => tDI_len q fun ρ ds items S' vs H' hd hi st r k => ?_
  obtain ⟨d1, d2, d3, xs, ys, zs, rfl, s1, s2, s3, rfl⟩ := zip3_it hi (by rw [hd, hl]; rfl)
  obtain ⟨v, w, u, rfl, hv, hw, hu⟩ := pr3 r
  obtain ⟨k1, us, rfl, t1⟩ := seq_kd hv s1
  obtain ⟨k2, ws, rfl, t2⟩ := seq_kd hw s2
  obtain ⟨k3, os, rfl, t3⟩ := seq_kd hu s3
  rw [a.hK]
  exact ⟨k1, k2, k3, us, ws, os, rfl, (t1 _ _ (Nx.refl _ _)).1, (t2 _ _ (Nx.refl _ _)).1, (t3 _ _ (Nx.refl _ _)).1, k _ (it_z3 t1 t2 t3)⟩
theorem pi_enmP (a : At X C Φ G W) {elts : List Expr} {kk : Nat} {tp p pos : Pos} {args : List CE} {x : Expr} (hg : Gl X "enumerate") (h : chks X.N X.env.scope args [x] = true) (g : GoodA X C W [x] (evs Φ G args)) :
    PI X (.Tuple elts kk tp) (.Call (.Name "enumerate" p) [x] [] pos) (tDI C W (evs Φ G args) .enm) := by
  have hl := chks_len h
  obtain ⟨e1, e2⟩ := args_facts (env := X.env) (pos := pos) h
  refine (pi_en hg (a.blt _ (by decide)) g e1).mono fun σ H R q => tDI_len q fun ρ ds items S' vs H' hd hi st r k => ?_
  obtain ⟨d1, xs, rfl, s1, rfl⟩ := enm_it hi (by rw [hd, hl]; rfl)
  obtain ⟨v, rfl, hv⟩ := pr1 r
  obtain ⟨k1, us, rfl, t1⟩ := seq_kd hv s1
  rw [a.hK]
  exact ⟨k1, us, rfl, (t1 _ _ (Nx.refl _ _)).1, k _ (it_en t1)⟩
/-- the check of what is walked -/
def chkI (N : List Str) (sc : Scope) (ik : Ik) (ia : List CE) (iter tgt : Expr) : Bool := match ik with
  | .seq => (match ia with | [a] => chk N sc a iter | _ => false)
  | .rng => (match iter with | .Call (.Name x _) xs [] _ => decide (x = ("range" : Str)) && glB sc x && decide (1 ≤ xs.length) && decide (xs.length ≤ 3) && chks N sc ia xs | _ => false)
  | .zip => (match iter, tgt with | .Call (.Name x _) [p, q] [] _, .Tuple .. => decide (x = ("zip" : Str)) && glB sc x && chks N sc ia [p, q] | .Call (.Name x _) [p, q, r] [] _, .Tuple .. => decide (x = ("zip" : Str)) && glB sc x && chks N sc ia [p, q, r] | _, _ => false)
  | .enm => (match iter, tgt with | .Call (.Name x _) [p] [] _, .Tuple .. => decide (x = ("enumerate" : Str)) && glB sc x && chks N sc ia [p] | _, _ => false)
/-- each term of a list is good -/
def AllGood (X : Cx) (C : Ct) (Φ : Str → Option Fsem) (G : Str → Option D) (W : WX) (cs : List CE) : Prop := ∀ c ∈ cs, ∀ e, chk X.N X.env.scope c e = true → Good X C W e (ev Φ G c)
theorem AllGood.args {cs : List CE} (h : AllGood X C Φ G W cs) : ∀ es, chks X.N X.env.scope cs es = true → GoodA X C W es (evs Φ G cs) := by
  induction cs with
  | nil => intro es q; exact ga_nil q
  | cons c cs ih => intro es q; exact ga_cons q (h c List.mem_cons_self) (ih fun c' hc => h c' (List.mem_cons_of_mem _ hc))
theorem pi_ok (a : At X C Φ G W) {ik : Ik} {ia : List CE} {iter tgt : Expr} (h : chkI X.N X.env.scope ik ia iter tgt = true) (g : AllGood X C Φ G W ia) : PI X tgt iter (tDI C W (evs Φ G ia) ik) := by
  unfold chkI at h
  split at h
  · split at h
    · exact pi_seqP a (g _ List.mem_cons_self _ h)
    · cases h
  · split at h
    · obtain ⟨h, h5⟩ := and2 h
      obtain ⟨h, h4⟩ := and2 h
      obtain ⟨h, h3⟩ := and2 h
      obtain ⟨h1, h2⟩ := and2 h
      rw [decide_eq_true_iff] at h1 h3 h4
      subst h1
      exact pi_rngP a (gl_of h2).1 h5 h3 h4 (g.args _ h5)
    · cases h
  · split at h
    · obtain ⟨h, h3⟩ := and2 h
      obtain ⟨h1, h2⟩ := and2 h
      rw [decide_eq_true_iff] at h1
      subst h1
      exact pi_zipP a (gl_of h2).1 h3 (g.args _ h3)
    · obtain ⟨h, h3⟩ := and2 h
      obtain ⟨h1, h2⟩ := and2 h
      rw [decide_eq_true_iff] at h1
      subst h1
      exact pi_zip3P a (gl_of h2).1 h3 (g.args _ h3)
    · cases h
  · split at h
    · obtain ⟨h, h3⟩ := and2 h
      obtain ⟨h1, h2⟩ := and2 h
      rw [decide_eq_true_iff] at h1
      subst h1
      exact pi_enmP a (gl_of h2).1 h3 (g.args _ h3)
    · cases h
/-! ### targets -/
def gMany : List Nat → TGs
  | [] => gNil
  | i :: is => gCons (gName i) (gMany is)
def gT (K : PySem.W.Frag) : Tg → TG
  | .one i => gName i
  | .many is => fun v σ H Q => gTup K is.length (gMany is) v σ H Q ∨ gUnl K is.length (gMany is) v σ H Q
theorem Rep.tupA {H : Hp} {ρ : Rg} {v : V} {ds : List D} (h : Rep C H ρ v (.tup ds)) : ∃ a xs, v = .ref a ∧ TupAt C H ρ a xs ∧ RepA C H ρ xs ds := by
  rcases h with h | ⟨_, _, z, _⟩
  · cases h with | tup h r => exact ⟨_, _, rfl, h, r⟩
  · cases z
/-- slots outside is are as they were -/
def Only (is : List Nat) (σ σ' : L2.St) : Prop := σ'.length = σ.length ∧ ∀ j, j ∉ is → σ'[j]? = σ[j]?
theorem many_ok {H : Hp} {ρ : Rg} : ∀ {is : List Nat} {ds : List D} {xs : List V} {σ : L2.St} {Γ Γ' : Gam} {Q : L2.St → Hp → Prop}, RepG C H ρ σ Γ → RepA C H ρ xs ds → setMany is ds Γ = some Γ' → (∀ σ', RepG C H ρ σ' Γ' → Only is σ σ' → Q σ' H) → gMany is xs σ H Q
  | [], ds, xs, σ, Γ, Γ', Q, rg, ra, h, k => by
    cases ra with
    | nil => cases h; exact ⟨rfl, k σ rg ⟨rfl, fun _ _ => rfl⟩⟩
    | cons _ _ => cases h
  | i :: is, ds, xs, σ, Γ, Γ', Q, rg, ra, h, k => by
    cases ra with
    | nil => cases h
    | cons r1 r2 =>
      refine ⟨_, _, rfl, ?_⟩
      refine many_ok (rg.set (i := i) (.inl r1)) r2 h fun σ' rg' o => k σ' rg' ⟨by rw [o.1, List.length_set], fun j hj => ?_⟩
      rw [o.2 j (fun z => hj (List.mem_cons_of_mem _ z)), List.getElem?_set_ne (fun z => hj (by rw [← z]; exact List.mem_cons_self))]
theorem setMany_len : ∀ {is : List Nat} {ds : List D} {Γ Γ' : Gam}, setMany is ds Γ = some Γ' → ds.length = is.length
  | [], [], _, _, _ => rfl
  | i :: is, d :: ds, _, _, h => by rw [List.length_cons, List.length_cons, setMany_len (is := is) h]
  | [], _ :: _, _, _, h => by cases h
  | _ :: _, [], _, _, h => by cases h
theorem Rep.lstA' {H : Hp} {ρ : Rg} {v : V} {ds : List D} (h : Rep C H ρ v (.lst ds)) : ∃ a xs, v = .ref a ∧ H a = some (.lst xs) ∧ RepA C H ρ xs ds := by
  rcases h with h | ⟨_, _, z, _⟩
  · cases h with | lst h r => exact ⟨_, _, rfl, h.1, r⟩
  · cases z
theorem gT_ok {H : Hp} {ρ : Rg} {tg : Tg} {d : D} {v : V} {σ : L2.St} {Γ Γ' : Gam} {Q : L2.St → Hp → Prop} (rg : RepG C H ρ σ Γ) (r : Rep C H ρ v d) (h : setTg tg d Γ = some Γ') (k : ∀ σ', RepG C H ρ σ' Γ' → Only (tgIs tg) σ σ' → Q σ' H) :
    gT C.K tg v σ H Q := by
  cases tg with
  | one i =>
    cases h
    refine k _ (rg.set r) ⟨by rw [List.length_set], fun j hj => ?_⟩
    rw [List.getElem?_set_ne (fun z => hj (by rw [← z]; exact List.mem_singleton.mpr rfl))]
  | many is =>
    unfold setTg at h
    split at h
    · rename_i hh; cases hh
    · rename_i hh; cases hh
      obtain ⟨a, xs, rfl, ha, ra⟩ := r.tupA
      exact .inl ⟨a, xs, rfl, ha.sq, by rw [ra.length]; exact setMany_len h, many_ok rg ra h k⟩
    · rename_i hh; cases hh
      obtain ⟨a, xs, rfl, ha, ra⟩ := r.lstA'
      exact .inr ⟨a, xs, rfl, .inl (.inl ha), by rw [ra.length]; exact setMany_len h, many_ok rg ra h k⟩
    · cases h
theorem tg_name {cl : Bool} {x : Str} {i : Nat} {p : Pos} (nd : X.N.Nodup) (hf : cl = true → ∀ x, X.fn x = true) (h1 : X.N[i]? = some x) (h2 : okLoc cl X.env.scope x = true) : PG X (.Name x p) (gName i) := by
  unfold okLoc at h2
  split at h2
  · exact pg_name nd h1 (.inl (by assumption)) (.inr (by assumption))
  · exact pg_name nd h1 (.inr (by assumption)) (.inl (hf h2 x))
  · cases h2
theorem tgs_ok {cl : Bool} (nd : X.N.Nodup) (hf : cl = true → ∀ x, X.fn x = true) : ∀ {is : List Nat} {es : List Expr}, tgsB cl X.env.scope X.N is es = true → PGs X es (gMany is) ∧ (assignEach es X.env).length = is.length ∧ (assignEach es X.env).findIdx? (·.1) = none
  | [], es, h => by
    unfold tgsB at h
    split at h
    · exact ⟨pgs_nil, rfl, rfl⟩
    · rename_i z; cases z
    · cases h
  | i :: is, es, h => by
    unfold tgsB at h
    split at h
    · rename_i z; cases z
    · rename_i i' is' x p es' z
      cases z
      obtain ⟨h, h3⟩ := and2 h
      obtain ⟨h1, h2⟩ := and2 h
      rw [decide_eq_true_iff] at h1
      obtain ⟨k1, k2, k3⟩ := tgs_ok nd hf h3
      refine ⟨pgs_cons (tg_name nd hf h1 h2) k1 rfl, ?_, ?_⟩
      · show (assignEach es' X.env).length + 1 = _
        rw [k2]; rfl
      · show List.findIdx? _ ((false, assign (.Name x p) X.env) :: assignEach es' X.env) = none
        rw [List.findIdx?_cons, k3]; rfl
    · cases h
theorem tg_ok {cl : Bool} (hK : X.K = C.K) (hc : X.calm = true) (nd : X.N.Nodup) (hf : cl = true → ∀ x, X.fn x = true) {tg : Tg} {e : Expr} (h : tgB cl X.env.scope X.N tg e = true) : PG X e (gT C.K tg) := by
  cases tg with
  | one i =>
    unfold tgB at h
    split at h
    · rename_i z; cases z
      obtain ⟨h1, h2⟩ := and2 h
      rw [decide_eq_true_iff] at h1
      exact tg_name nd hf h1 h2
    · rename_i z; cases z
    · cases h
  | many is =>
    unfold tgB at h
    split at h
    · rename_i z; cases z
    · rename_i z; cases z
      obtain ⟨k1, k2, k3⟩ := tgs_ok nd hf h
      have p1 := pg_tup (pos := by assumption) (k := by assumption) hc k1 k2 k3
      have p2 := pg_unl (pos := by assumption) (k := by assumption) hc k1 k2 k3
      rw [hK] at p1 p2
      exact ⟨fun pins s σ H v u Q I r hw => hw.elim (fun q => p1.run pins s σ H v u Q I r q) fun q => p2.run pins s σ H v u Q I r q⟩
    · cases h
end
end EK

set_option Elab.async false
set_option linter.all false
set_option maxRecDepth 100000
set_option maxHeartbeats 4000000
namespace EK
open PySem L2 PySem.Spec PyProof.Rows
section
variable {X : Cx} {C : Ct} {Φ : Str → Option Fsem} {G : Str → Option D} {W : WX} {e : Expr} {f : Gam → Sto → R} {t : TE}
/-! ### the comprehension -/
theorem wipe_len (σ : L2.St) : ∀ vs : List Nat, (wipe σ vs).length = σ.length
  | [] => rfl
  | v :: vs => by show ((wipe σ vs).set v none).length = _; rw [List.length_set, wipe_len σ vs]
theorem wipe_get (σ : L2.St) : ∀ (vs : List Nat) (j : Nat), (wipe σ vs)[j]? = if j ∈ vs then (if j < σ.length then some none else none) else σ[j]?
  | [], j => by rw [if_neg (by simp)]; rfl
  | v :: vs, j => by
    show ((wipe σ vs).set v none)[j]? = _
    rw [List.getElem?_set]
    by_cases h : v = j
    · subst h
      rw [if_pos rfl, if_pos List.mem_cons_self, wipe_len]
    · rw [if_neg h, wipe_get σ vs j]
      by_cases hj : j ∈ vs
      · rw [if_pos hj, if_pos (List.mem_cons_of_mem _ hj)]
      · rw [if_neg hj, if_neg (fun z => by rcases List.mem_cons.mp z with z | z; exact h z.symm; exact hj z)]
theorem wipe_only {is vs : List Nat} {σ σ' : L2.St} (h : ∀ i ∈ is, i ∈ vs) (o : Only is (wipe σ vs) σ') : wipe σ' vs = wipe σ vs := by
  apply List.ext_getElem?
  intro j
  rw [wipe_get, wipe_get]
  by_cases hj : j ∈ vs
  · rw [if_pos hj, if_pos hj, o.1, wipe_len]
  · rw [if_neg hj, if_neg hj, o.2 j (fun z => hj (h j z)), wipe_get, if_neg hj]
theorem rlb_eq (scope : Scope) (cl : List (Str × Addr)) (Ca : Addr) (env : Env) : (compEnvC scope cl Ca env).scope = rlb scope env.scope := rfl

theorem RepG.keep {H : Hp} {ρ : Rg} {σ : L2.St} {Γ : Gam} {p : Addr} {o : HO} (g : RepG C H ρ σ Γ) (h : H p = none) : RepG C (upd H p o) (ρ.keep p) σ Γ := g.nx (Nx.keep h) fun _ _ e => e
theorem Rep.nw {H H' : Hp} {ρ : Rg} {v : V} {d : D} (N : Nw H ρ H' ρ) (h : Rep C H ρ v d) : Rep C H' ρ v d := by
  rcases h with h | ⟨k, a, e1, e2, e3⟩
  · exact .inl (h.nw N)
  · exact .inr ⟨k, a, e1, e2, e3⟩
theorem RepG.nw {H H' : Hp} {ρ : Rg} {σ : L2.St} {Γ : Gam} (N : Nw H ρ H' ρ) (g : RepG C H ρ σ Γ) : RepG C H' ρ σ Γ :=
  ⟨g.len, fun i d e => by obtain ⟨v, h1, h2⟩ := g.at_ i d e; exact ⟨v, h1, h2.nw N⟩⟩
/-- from the heap that the comprehension began with to one with its list -/
structure Mid (H₁ : Hp) (ρ : Rg) (Dl : Addr) (H : Hp) : Prop where
  kp : ∀ a o, H₁ a = some o → a ∉ ρ.st → H a = some o
  out : Dl ∉ ρ
theorem Mid.nx {H₁ H : Hp} {ρ : Rg} {Dl : Addr} (m : Mid H₁ ρ Dl H) : Nx H₁ ρ H ρ := ⟨m.kp, fun _ z => .inl z⟩
theorem Mid.step {H₁ H H' : Hp} {ρ : Rg} {Dl : Addr} (m : Mid H₁ ρ Dl H) (n : Nx H (ρ.keep Dl) H' (ρ.keep Dl)) : Mid H₁ ρ Dl H' := ⟨fun a o h ha => n.kp a o (m.kp a o h ha) ha, m.out⟩
theorem Mid.put {H₁ H : Hp} {ρ : Rg} {Dl : Addr} {o : HO} (m : Mid H₁ ρ Dl H) (h : H₁ Dl = none) : Mid H₁ ρ Dl (upd H Dl o) := ⟨fun a u e ha => by rw [upd_ne (ne_of_none e h)]; exact m.kp a u e ha, m.out⟩
/-- how a comprehension's turns go on -/
theorem lc_rec {cond elt : Gam → Sto → R} {tg : Tg} {own : List Nat} {J : It} {items : List D} {H₁ : Hp} {ρ : Rg} {S₁ : Sto} {σ : L2.St} {Γ : Gam} {Q : VK} {Dl : Addr} {tt : TT} {te : TE}
    (st : StOk C H₁ ρ S₁) (rg : RepG C H₁ ρ σ Γ) (hj : ItOk C J H₁ ρ items) (hD : H₁ Dl = none) (hz : items.length ≤ szL) (htg : ∀ i ∈ tgIs tg, i ∈ own)
    (htt : ∀ σ H Q, tDT C (fun _ _ _ _ => False) cond σ H Q → tt σ H Q) (hte : ∀ σ H Q, tDE C (fun _ _ _ _ => False) elt σ H Q → te σ H Q)
    (q : Fin C W ρ σ H₁ Q (lcLoop cond elt tg (wipeG Γ own) items [] S₁)) :
    ∃ Wl : Nat → Nat → Hp → Prop, (∃ m, Wl 0 m (upd H₁ Dl (.lst []))) ∧ ∀ i m H, Wl i m H →
      (J.stop i H ∧ Q (.ref Dl) H) ∨ (J.go i H ∧ ∃ Nx' : Hp → Prop, (∀ H', Nx' H' → ∃ m', m' < m ∧ Wl (i + 1) m' H') ∧ ∀ x H', J.yld i H x H' → gT C.K tg x (wipe σ own) H' fun σ2 H2 => wipe σ2 own = wipe σ own ∧ tt σ2 H2 fun b H3 =>
        if b = true then te σ2 H3 fun y H4 => ∃ acc, H4 Dl = some (.lst acc) ∧ acc.length < sizeLine ∧ Nx' (upd H4 Dl (.lst (acc ++ [y]))) else Nx' H3) := by
  obtain ⟨g, y, w, hg, hy⟩ := hj
  have hf := st.free hD
  refine lc_it w (g := gT C.K tg) (fun i H => ∃ (acc : List D) (vs : List V) (S : Sto), Mid H₁ ρ Dl H ∧ StOk C H (ρ.keep Dl) S ∧ RepG C H (ρ.keep Dl) σ Γ ∧ H Dl = some (.lst vs) ∧ RepA C H (ρ.keep Dl) vs acc ∧ acc.length ≤ i ∧
    Fin C W ρ σ H₁ Q (lcLoop cond elt tg (wipeG Γ own) (items.drop i) acc S)) ?_ ?_ ?_ ?_
  · exact ⟨[], [], S₁, ⟨fun a o h ha => (Nx.keep (o := .lst []) hD).kp a o h ha, hf⟩, st.keep hD, rg.keep hD, upd_same, .nil, Nat.zero_le _, q⟩
  · rintro i H _ ⟨acc, vs, S, m, _⟩
    exact hg H ρ m.nx
  · rintro i x H H' hi ⟨acc, vs, S, m, sk, rgk, hv, ra, hl, q⟩ hyi
    have nk : Nx H₁ ρ H (ρ.keep Dl) := ⟨m.kp, fun a z => by
      rcases Rg.mem_keep.mp z with z | z
      · exact .inl z
      · rw [z]; exact .inr hD⟩
    obtain ⟨hc, d, hd, rd⟩ := hy i H (ρ.keep Dl) x H' nk (fun a ha => sk.there ha) hyi
    -- the step from H to H' is nothing, or one new object
    have n1 : Nx H (ρ.keep Dl) H' (ρ.keep Dl) ∧ StOk C H' (ρ.keep Dl) S := by
      rcases hc with rfl | ⟨T, o, hT, rfl⟩
      · exact ⟨Nx.refl _ _, sk⟩
      · exact ⟨Nx.new hT, sk.new hT⟩
    have hdrop : items.drop i = d :: items.drop (i + 1) := by
      have hlt := (List.getElem?_eq_some_iff.mp hd).1
      rw [List.drop_eq_getElem_cons hlt]
      have := (List.getElem?_eq_some_iff.mp hd).2
      rw [this]
    rw [hdrop] at q
    unfold lcLoop at q
    cases hs : setTg tg d (wipeG Γ own) with
    | none => rw [hs] at q; exact q.elim
    | some Γ' =>
      rw [hs] at q
      refine gT_ok ((rgk.nx0 n1.1).wipe own) (.inl rd) hs fun σ2 rg2 o2 => ⟨wipe_only htg o2, ?_⟩
      refine htt _ _ _ ⟨ρ.keep Dl, Γ', S, n1.2, rg2, ?_⟩
      dsimp only at q
      cases e1 : cond Γ' S with
      | bad => rw [e1] at q; exact q.elim
      | ex c d S' => rw [e1] at q; exact q.elim
      | ok b S1 =>
        rw [e1] at q
        cases b with
        | bl b =>
          refine ⟨b, rfl, fun H3 n3 s3 => ?_⟩
          have m3 := (m.step n1.1).step n3
          have hv3 : H3 Dl = some (.lst vs) := n3.kp _ _ (n1.1.kp _ _ hv (fun z => hf (Rg.of_st z))) (fun z => hf (Rg.of_st z))
          have rg3 := rgk.nx0 (n1.1.trans n3)
          have ra3 := ra.nx (n1.1.trans n3)
          cases b with
          | false => exact ⟨acc, vs, S1, m3, s3, rg3, hv3, ra3, by omega, q⟩
          | true =>
            refine hte _ _ _ ⟨ρ.keep Dl, Γ', S1, s3, rg2.nx0 n3, ?_⟩
            dsimp only at q
            cases e2 : elt Γ' S1 with
            | bad => rw [e2] at q; exact q.elim
            | ex c d S' => rw [e2] at q; exact q.elim
            | ok d2 S2 =>
              rw [e2] at q
              dsimp only at q
              intro v H4 n4 s4 r4
              split at q
              · rename_i hn
                have hv4 : H4 Dl = some (.lst vs) := n4.kp _ _ hv3 (fun z => hf (Rg.of_st z))
                have hex : Dl ∈ (ρ.keep Dl).ex := List.mem_append_right _ (List.mem_singleton.mpr rfl)
                have nw : Nw H4 (ρ.keep Dl) (upd H4 Dl (.lst (vs ++ [v]))) (ρ.keep Dl) := Nw.mut (Rg.of_ex hex)
                have hlen := ra3.length
                have hil : i < items.length := (List.getElem?_eq_some_iff.mp hd).1
                refine ⟨vs, hv4, by rw [hlen, szL_eq]; omega, acc ++ [d2], vs ++ [v], S2, (m3.step n4).put hD, s4.mutEx hex, (rg3.nx0 n4).nw nw, upd_same, ((ra3.nx n4).nw nw).append (.cons ((r4.d hn).nw nw) .nil), by rw [List.length_append, List.length_singleton]; omega, q⟩
              · exact q.elim
        | _ => exact q.elim
  · rintro H ⟨acc, vs, S, m, sk, rgk, hv, ra, hl, q⟩
    rw [List.drop_length] at q
    unfold lcLoop at q
    exact q (.ref Dl) H m.nx sk.unkeep (.inl (.lst ⟨hv, hf⟩ (ra.less fun a z => Rg.mem_keep.mpr (.inl z))))
end
end EK

set_option Elab.async false
set_option linter.all false
set_option maxRecDepth 100000
set_option maxHeartbeats 4000000
namespace EK
open PySem L2 PySem.Spec PyProof.Rows
section
variable {X : Cx} {C : Ct} {Φ : Str → Option Fsem} {G : Str → Option D} {W : WX} {e : Expr}
/-! ### defs as values, a display with a star -/
theorem vis_of {sc : Scope} {x : Str} (h2 : visB sc x = true) : Vis sc x := by
  unfold visB at h2
  split at h2
  · exact .inl (by assumption)
  · exact .inr (.inl (by assumption))
  · exact .inr (.inr (by assumption))
  · cases h2
theorem g_fnv (a : At X C Φ G W) {y : Str} (h : chk X.N X.env.scope (.fnv y) e = true) : Good X C W e (ev Φ G (.fnv y)) := by
  rw [chk.eq_def] at h
  dsimp only at h
  split at h
  · rename_i x p
    rw [Bool.and_eq_true, decide_eq_true_iff] at h
    obtain ⟨rfl, h2⟩ := h
    obtain ⟨g1, g2, g3⟩ := gl_of h2
    cases hd : Φ x with
    | none =>
      refine good_plain ⟨fun pins s σ H Q I q => ?_⟩ rfl
      obtain ⟨ρ, Γ, S, st, rg, q⟩ := q
      rw [ev, hd] at q
      exact q.elim
    | some F =>
      obtain ⟨f, fd, ps, k, hm, _⟩ := a.fns x F hd
      refine good_plain ((pe_glob (pos := p) (v := .ref f) g1 hm rfl g2).mono fun σ H Q q => ?_) rfl
      obtain ⟨ρ, Γ, S, st, rg, q⟩ := q
      rw [ev, hd] at q
      exact q (.ref f) H (Nx.refl H ρ) st (.inl (.fn (by rw [← a.hmg]; exact hm)))
  · cases h
theorem g_callv (a : At X C Φ G W) {i : Nat} {args : List CE} (h : chk X.N X.env.scope (.callv i args) e = true) (ia : ∀ es, chks X.N X.env.scope args es = true → GoodA X C W es (evs Φ G args)) : Good X C W e (ev Φ G (.callv i args)) := by
  rw [chk.eq_def] at h
  dsimp only at h
  split at h
  · rename_i x p y ys q0
    obtain ⟨h1, h3⟩ := and2 h
    unfold varB at h1
    obtain ⟨h1, k4⟩ := and2 h1
    obtain ⟨h1, k3⟩ := and2 h1
    obtain ⟨k1, k2⟩ := and2 h1
    rw [decide_eq_true_iff] at k1
    obtain ⟨e1, e2⟩ := args_facts (env := X.env) (pos := q0) h3
    refine good_plain ((pe_callVG (p := p) (i := i) (Xc := L2.CX X.prog X.w) (E := WE W) (J := fun f sp => ∃ x F, Φ x = some F ∧ X.mg x = some (.ref f) ∧ sp = spD C F) (fun f sp hJ => ?_) k1 (vis_of k2) (fun σ => passAt a.tk σ) (ia _ h3) (by simpa using k3) (by simpa using k4) e1 e2).mono fun σ H Q q => ?_) rfl
    · obtain ⟨x', F, hF, hm, rfl⟩ := hJ
      obtain ⟨f', fd, ps, k, hm', hk, hb, hf, hr⟩ := a.fns x' F hF
      rw [hm] at hm'
      cases hm'
      exact ⟨fd, ps, k, hk, hb.b, hf, hr⟩
    · obtain ⟨ρ, Γ, S, st, rg, q⟩ := q
      rw [ev] at q
      split at q
      · rename_i x' hx'
        split at q
        · rename_i F hF
          obtain ⟨v, hv, rv⟩ := rg.at_ i _ hx'
          rcases rv with rv | ⟨_, _, z, _⟩
          · cases rv with
            | fn hm =>
              rename_i f
              refine ⟨f, spD C F, hv, ⟨x', F, hF, by rw [a.hmg]; exact hm, rfl⟩, ?_⟩
              refine tDA_bind st rg q fun ds S1 vs H1 n1 s1 r1 rg1 q1 => ?_
              refine ⟨ds, ρ, S1, s1, r1, ?_⟩
              cases hr : F ds S1 with
              | bad => rw [hr] at q1; exact q1
              | ok d S2 => rw [hr] at q1; exact q1
              | ex c d S2 => rw [hr] at q1; exact q1
          · cases z
        · exact q.elim
      · exact q.elim
  · cases h
theorem PK.mono {kws : List Keyword} {t t' : TA} (h : PK X kws t) (i : ∀ σ H Q, t' σ H Q → t σ H Q) : PK X kws t' := ⟨fun pos pins s σ H Q I q => h.run pos pins s σ H Q I (i σ H Q q)⟩
theorem gk_all : ∀ {cs : List CE} {kws : List Keyword}, AllGood X C Φ G W cs → chks X.N X.env.scope cs (kws.map (·.value)) = true → PK X kws (tDA C W (evs Φ G cs))
  | [], kws, _, h => by
    rw [chks.eq_def] at h
    dsimp only at h
    have : kws = [] := by cases kws with | nil => rfl | cons _ _ => cases h
    subst this
    refine PK.mono pk_nil fun σ H Q q => ?_
    obtain ⟨ρ, Γ, S, st, rg, q⟩ := q
    rw [evs] at q
    exact q [] H (Nx.refl _ _) st .nil
  | c :: cs, kws, g, h => by
    rw [chks.eq_def] at h
    dsimp only at h
    cases kws with
    | nil => cases h
    | cons kw kws =>
    obtain ⟨nm, e, kpos⟩ := kw
    obtain ⟨h, h3⟩ := and2 h
    obtain ⟨h1, h2⟩ := and2 h
    refine PK.mono (pk_cons (g c List.mem_cons_self e h2).1 (gk_all (fun c' hc => g c' (List.mem_cons_of_mem _ hc)) h3)) fun σ H Q q => ?_
    obtain ⟨ρ, Γ, S, st, rg, q⟩ := q
    rw [evs] at q
    refine ⟨ρ, Γ, S, st, rg, ?_⟩
    cases e1 : ev Φ G c Γ S with
    | bad => rw [e1] at q; exact q
    | ex c d S' => rw [e1] at q; exact q
    | ok d S1 =>
      rw [e1] at q
      dsimp only at q
      intro v H1 n1 s1 r1
      refine ⟨ρ, Γ, S1, s1, rg.nx0 n1, ?_⟩
      cases e2 : evs Φ G cs Γ S1 with
      | bad => rw [e2] at q; exact q
      | ex c d S' => rw [e2] at q; exact fun Ca dd v H2 e n s q' nd r => q Ca dd v H2 e (n1.trans n) s q' nd r
      | ok ds S2 =>
        rw [e2] at q
        exact fun vs H2 n2 s2 r2 => q (v :: vs) H2 (n1.trans n2) s2 (.cons (r1.nx0 n2) r2)
theorem kw_facts {env : Env} {pos : Pos} : ∀ {kws : List Keyword}, kws.all (·.arg.isSome) = true → (backToKw pos (keywordEach kws env)).all (·.1.isSome) = true ∧ (backToKw pos (keywordEach kws env)).filterMap (·.1) = kws.filterMap (·.arg) ∧ (backToKw pos (keywordEach kws env)).any (·.1.isNone) = false
  | [], _ => ⟨rfl, rfl, rfl⟩
  | ⟨nm, e, kp⟩ :: kws, h => by
    rw [List.all_cons, Bool.and_eq_true] at h
    obtain ⟨i1, i2, i3⟩ := kw_facts (env := env) (pos := pos) h.2
    cases nm with
    | none => cases h.1
    | some x =>
      unfold backToKw at i1 i2 i3 ⊢
      refine ⟨?_, ?_, ?_⟩
      · rw [keywordEach, List.map_cons, List.all_cons, i1]; rfl
      · rw [keywordEach, List.map_cons]
        show x :: _ = x :: _
        rw [i2]
      · rw [keywordEach, List.map_cons, List.any_cons, i3]; rfl
theorem g_callk (a : At X C Φ G W) {fn : Str} {args : List CE} (h : chk X.N X.env.scope (.callk fn args) e = true) (i : AllGood X C Φ G W args) : Good X C W e (ev Φ G (.callk fn args)) := by
  rw [chk.eq_def] at h
  dsimp only at h
  split at h
  · rename_i x p kws q0
    obtain ⟨h, h3⟩ := and2 h
    obtain ⟨h, h5⟩ := and2 h
    obtain ⟨h, h4⟩ := and2 h
    obtain ⟨h1, h2⟩ := and2 h
    rw [decide_eq_true_iff] at h1 h4
    subst h1
    obtain ⟨g1, g2, g3⟩ := gl_of h2
    cases hF : Φ x with
    | none =>
      refine good_plain ⟨fun pins s σ H Q I q => ?_⟩ rfl
      obtain ⟨ρ, Γ, S, st, rg, q⟩ := q
      rw [ev, hF] at q
      exact q.elim
    | some F =>
      obtain ⟨fa, fd, ps, k, hm, hk, hb, hf, hr⟩ := a.fns x F hF
      obtain ⟨k1, k2, k3⟩ := kw_facts (env := X.env) (pos := q0) h5
      refine good_plain ((pe_callGK (p := p) hf hr g1 hm hk (hb.k _ h4) (fun σ => passAt a.tk σ) (gk_all i h3) g2 k1 k2 (by rw [k3]; rfl)).mono fun σ H Q q => ?_) rfl
      obtain ⟨ρ, Γ, S, st, rg, q⟩ := q
      rw [ev, hF] at q
      refine tDA_bind st rg q fun ds S1 vs H1 n1 s1 r1 rg1 q1 => ?_
      refine ⟨ds, ρ, S1, s1, r1, ?_⟩
      cases hr : F ds S1 with
      | bad => rw [hr] at q1; exact q1
      | ok d S2 => rw [hr] at q1; exact q1
      | ex c d S2 => rw [hr] at q1; exact q1
  · cases h
theorem g_tupS (a : At X C Φ G W) {c1 c2 : CE} (h : chk X.N X.env.scope (.tupS c1 c2) e = true) (i1 : ∀ e, chk X.N X.env.scope c1 e = true → Good X C W e (ev Φ G c1)) (i2 : ∀ e, chk X.N X.env.scope c2 e = true → Good X C W e (ev Φ G c2)) : Good X C W e (ev Φ G (.tupS c1 c2)) := by
  rw [chk.eq_def] at h
  dsimp only at h
  split at h
  · rename_i x y sp k p
    obtain ⟨h, h4⟩ := and2 h
    obtain ⟨h, h3⟩ := and2 h
    obtain ⟨h1, h2⟩ := and2 h
    refine good_plain ((pe_tup (pa_cons (i1 x h3).1 (StX.pa_star (i2 y h4).1 pa_nil) (star_of h1))).mono fun σ H Q q => ?_) rfl
    obtain ⟨ρ, Γ, S, st, rg, q⟩ := q
    rw [ev] at q
    refine tDE_bind st rg q fun d S1 v H1 n1 s1 r1 rg1 q1 => ?_
    refine tDE_bind s1 rg1 q1 fun e S2 w H2 n2 s2 r2 rg2 q2 => ?_
    have vr := r2.vw s2
    split at q2
    · rename_i ys hy
      rw [hy] at vr
      obtain ⟨b, xs, rfl, hb, ra⟩ := vr.tup
      split at q2
      · rename_i hc
        have rd := (r1.nx0 n2).d hc.1
        refine ⟨b, xs, rfl, .inl (by rw [a.hK]; exact hb.sq), ?_⟩
        refine ⟨by rw [List.append_nil, List.length_cons, ra.length, szL_eq]; exact hc.2, fun p hp => ?_⟩
        rw [List.append_nil]
        exact q2 _ _ (Nx.new hp) (s2.new hp) (.inl (.tup (.inl ⟨.inl upd_same, s2.free hp⟩) (.cons (rd.nx (Nx.new hp)) (ra.nx (Nx.new hp)))))
      · exact q2.elim
    · exact q2.elim
  · cases h
end
end EK

set_option Elab.async false
set_option linter.all false
set_option maxRecDepth 100000
set_option maxHeartbeats 4000000
namespace EK
open PySem L2 PySem.Spec PyProof.Rows LamX
section
variable {X : Cx} {C : Ct} {Φ : Str → Option Fsem} {G : Str → Option D} {W : WX} {e : Expr} {f : Gam → Sto → R} {t : TE}
/-! ### errors as values -/
theorem isFn_at (a : At X C Φ G W) {c : Str} (h : isFn c (G c) = true) : ∃ Ca, X.mg c = some (.ref Ca) ∧ C.mg c = some (.ref Ca) := by
  cases e : G c with
  | none => rw [e] at h; cases h
  | some d =>
    rw [e] at h
    unfold isFn at h
    split at h
    · rename_i y q
      cases q
      have := of_decide_eq_true h
      subst this
      obtain ⟨u, v, hm, hr, hd⟩ := a.glob _ _ e
      have := hd (fun _ => none) ⟨[], []⟩
      cases this with
      | fn hc =>
        cases hr
        exact ⟨_, hm, hc⟩
    · cases h
theorem isXc_at {c : Str} (h : isXc c = true) : ∃ r, xcT.lookup c = some r ∧ fldT c = r.1 := by
  unfold isXc at h
  obtain ⟨r, e⟩ := Option.isSome_iff_exists.mp h
  refine ⟨r, e, ?_⟩
  unfold fldT
  rw [e]
theorem g_mk (a : At X C Φ G W) {c : Str} {c1 : CE} (h : chk X.N X.env.scope (.mk c c1) e = true) (i1 : ∀ e, chk X.N X.env.scope c1 e = true → Good X C W e (ev Φ G c1)) : Good X C W e (ev Φ G (.mk c c1)) := by
  rw [chk.eq_def] at h
  dsimp only at h
  split at h
  · rename_i x p y q0
    obtain ⟨h, h4⟩ := and2 h
    obtain ⟨h, h3⟩ := and2 h
    obtain ⟨h1, h2⟩ := and2 h
    rw [decide_eq_true_iff] at h1
    subst h1
    obtain ⟨g1, g2, g3⟩ := gl_of h2
    by_cases hc : isFn x (G x) = true ∧ isXc x = true
    · obtain ⟨Ca, hm, hm'⟩ := isFn_at a hc.1
      obtain ⟨r, er, ef⟩ := isXc_at hc.2
      have T := a.xcs x r Ca er hm
      obtain ⟨B, n1, n2, bmB, T1⟩ := T.xc
      refine good_plain ((pe_mkx (p := p) (pos := q0) T1 (a.blt _ (by decide)) a.rm.rm g1 hm (i1 y h4).1 g2 (star_of h3)).mono fun σ H Q q => ?_) rfl
      obtain ⟨ρ, Γ, S, st, rg, q⟩ := q
      rw [ev, if_pos hc] at q
      refine tDE_bind st rg q fun d S1 v H1 n1 s1 r1 rg1 q1 => ?_
      intro b dd nb nd hne
      split at q1
      · rename_i hn
        have nb' : (upd H1 dd (.xd [(r.1, v)])) b = none := by rw [upd_ne (Ne.symm hne)]; exact nb
        have N : Nx H1 ρ (upd (upd H1 dd (.xd [(r.1, v)])) b (ExT (.ref Ca) (some dd) b)) ρ := (Nx.new nd).trans (Nx.new nb')
        refine q1 (.ref b) _ N ((s1.new nd).new nb') (.inl (.exc1 hm' upd_same (s1.free nb) ?_ (s1.free nd) ((r1.d hn).nx N)))
        rw [upd_ne hne, upd_same, a.fld, ef]
      · exact q1.elim
    · refine good_plain ⟨fun pins s σ H Q I q => ?_⟩ rfl
      obtain ⟨ρ, Γ, S, st, rg, q⟩ := q
      rw [ev, if_neg hc] at q
      exact q.elim
  · cases h
theorem g_att (a : At X C Φ G W) {n : Str} {c1 : CE} (h : chk X.N X.env.scope (.att c1 n) e = true) (i1 : ∀ e, chk X.N X.env.scope c1 e = true → Good X C W e (ev Φ G c1)) : Good X C W e (ev Φ G (.att c1 n)) := by
  rw [chk.eq_def] at h
  dsimp only at h
  split at h
  · rename_i x n' p
    obtain ⟨h, h3⟩ := and2 h
    obtain ⟨h1, h2⟩ := and2 h
    rw [decide_eq_true_iff] at h1
    subst h1
    refine good_plain ((pe_att (i1 x h3).1 (base_of h2)).mono fun σ H Q q => ?_) rfl
    obtain ⟨ρ, Γ, S, st, rg, q⟩ := q
    rw [ev] at q
    refine tDE_bind st rg q fun d S1 v H1 n1 s1 r1 rg1 q1 => ?_
    split at q1
    · rename_i c y
      split at q1
      · rename_i hc
        obtain ⟨r, er, ef⟩ := isXc_at hc.1
        have rd := r1.d (by rfl)
        cases rd with
        | @exc1 b Ca dd _ u _ m hb hbn hd hdn ru =>
          have T := a.xcs c r Ca er (by rw [a.hmg]; exact m)
          have e1 : n' = C.fld c := by rw [a.fld]; exact hc.2.symm
          have e2 : n' = r.1 := hc.2.symm.trans ef
          refine ⟨b, Ca, dd, _, u, rfl, T.xf, by rw [e2]; exact T.no, hb, hd, by rw [e1]; simp [List.lookup], q1 u H1 (Nx.refl _ _) s1 (.inl ru)⟩
      · exact q1.elim
    · exact q1.elim
  · cases h
theorem g_isc (a : At X C Φ G W) {c : Str} {c1 : CE} (h : chk X.N X.env.scope (.isc c1 c) e = true) (i1 : ∀ e, chk X.N X.env.scope c1 e = true → Good X C W e (ev Φ G c1)) : Good X C W e (ev Φ G (.isc c1 c)) := by
  rw [chk.eq_def] at h
  dsimp only at h
  split at h
  · rename_i x p y t p2 p3
    obtain ⟨h, h6⟩ := and2 h
    obtain ⟨h, h5⟩ := and2 h
    obtain ⟨h, h4⟩ := and2 h
    obtain ⟨h, h3⟩ := and2 h
    obtain ⟨h1, h2⟩ := and2 h
    rw [decide_eq_true_iff] at h1 h3
    subst h1 h3
    obtain ⟨g1, _, _⟩ := gl_of h2
    obtain ⟨g2, g3, _⟩ := gl_of h4
    by_cases hc : isFn t (G t) = true
    · obtain ⟨Cb, hm, hm'⟩ := isFn_at a hc
      have ht : PE X (.Name t p2) (tC (.ref Cb)) := pe_glob (pos := p2) g2 hm rfl g3
      refine good_plain ((pe_callB call_isX g1 (a.blt _ (by decide)) boot_isinstance (pa_cons (i1 y h6).1 (pa_cons ht pa_nil) (star_of h5)) (by decide) (by decide) (star_of h5) rfl).mono fun σ H Q q => ?_) rfl
      obtain ⟨ρ, Γ, S, st, rg, q⟩ := q
      rw [ev, if_pos hc] at q
      refine tDE_bind st rg q fun d S1 v H1 n1 s1 r1 rg1 q1 => ?_
      split at q1
      · rename_i c ds
        obtain ⟨z, hz, q2⟩ := lift_fin q1
        rw [Option.map_eq_some_iff] at hz
        obtain ⟨b, hb, rfl⟩ := hz
        have ecx : ∀ Ca, X.mg c = some (.ref Ca) → ExcC X.K Ca := fun Ca hm => by
          unfold subT at hb
          cases e : xcT.lookup c with
          | some r => exact (a.xcs c r Ca e hm).ec
          | none =>
            rw [e] at hb
            dsimp only at hb
            split at hb
            · rename_i q
              rw [q] at hm
              exact (a.sub.ev Ca hm).ec
            · cases hb
        have rd := r1.d (by rfl)
        have fin : ∀ {bb Ca : Addr} {d : Option Addr}, C.mg c = some (.ref Ca) → H1 bb = some (ExT (.ref Ca) d bb) → (∀ dd, d = some dd → ∃ fs, H1 dd = some (.xd fs)) → v = .ref bb → rIsX X.K [v, .ref Cb] H1 Q := fun {bb Ca d} m h1 h2 ev => by
          have m' : X.mg c = some (.ref Ca) := by rw [a.hmg]; exact m
          exact ⟨bb, Ca, d, .ref Cb, .ref Cb, b, by rw [ev], ecx Ca m', h1, h2, fun u hu => hu, a.sub.own c t b Ca Cb hb m' hm, q2 _ H1 (Nx.refl _ _) s1 (.bl b)⟩
        cases rd with
        | exc0 m h1 h2 => exact fin m h1 (fun dd z => by cases z) rfl
        | exc1 m h1 h2 h3 h4 h5 => exact fin m h1 (fun dd z => by cases z; exact ⟨_, h3⟩) rfl
      · exact q1.elim
    · refine good_plain ⟨fun pins s σ H Q I q => ?_⟩ rfl
      obtain ⟨ρ, Γ, S, st, rg, q⟩ := q
      rw [ev, if_neg hc] at q
      exact q.elim
  · cases h
/-! ### _law_outcome(lambda: ..) -/
/-- a table of the store is written -/
theorem StOk.tabW {H H1 : Hp} {ρ : Rg} {S : Sto} {k : Nat} {P : Addr} {nm : List (Str × NameKind)} {q : Str} (s : StOk C H ρ S) (hk : ρ.st[k]? = some P) (hS : S[k]? = some (.tab nm)) (ht : C.tb nm = some (P, q)) (kp : ∀ b o, b ≠ P → H b = some o → H1 b = some o) (t1 : TabZ H1 P q fun c => c ∉ ρ) :
    Nx H ρ H1 ρ ∧ StOk C H1 ρ S := by
  have hP : P ∈ ρ.st := List.mem_of_getElem? hk
  have n : Nx H ρ H1 ρ := ⟨fun b o e hb => kp b o (fun z => hb (by rw [z]; exact hP)) e, fun _ z => .inl z⟩
  refine ⟨n, s.len, s.nd, fun j b o h1 h2 => ?_, fun b hb => ?_⟩
  · by_cases hj : j = k
    · subst hj
      rw [hk] at h1
      cases h1
      rw [hS] at h2
      cases h2
      exact ⟨q, ht, t1⟩
    · have hb : b ≠ P := fun z => hj (nd_ix s.nds h1 (by rw [z]; exact hk))
      have o1 := s.at_ j b o h1 h2
      refine o1.nw n.w ?_
      cases e : H b with
      | none => exact absurd e o1.some
      | some u => exact kp b u hb e
  · cases e : H b with
    | none => exact absurd e (s.rs b hb)
    | some u =>
      rw [kp b u (fun z => s.apart hP (by rw [← z]; exact hb)) e]
      exact fun z => by cases z
theorem fin_w {W1 : Value → Option Addr → Hp → Prop} {ρ : Rg} {σ σ' : L2.St} {H : Hp} {Q : VK} {r : R} (h : Fin C (fun c d _ H => W1 c d H) ρ σ H Q r) : Fin C (fun c d _ H => W1 c d H) ρ σ' H Q r := by
  cases r <;> exact h
theorem g_outc (a : At X C Φ G W) {k : Nat} {nm : List (Str × NameKind)} {ls : Bool} {b : CE} (lf : LamF X C Φ) (h : chk X.N X.env.scope (.outc k nm ls b) e = true)
    (sb : ∀ (X' : Cx) (W' : WX) (e' : Expr), At X' C Φ G W' → chk X'.N X'.env.scope b e' = true → noO b = true → Good X' C W' e' (ev Φ G b)) : Good X C W e (ev Φ G (.outc k nm ls b)) := by
  rw [chk.eq_def] at h
  dsimp only at h
  split at h
  · rename_i x p params body scope lpos pos
    obtain ⟨h, h7⟩ := and2 h
    obtain ⟨h, h6⟩ := and2 h
    obtain ⟨h, h5⟩ := and2 h
    obtain ⟨h, h4⟩ := and2 h
    obtain ⟨h, h3⟩ := and2 h
    obtain ⟨h1, h2⟩ := and2 h
    rw [decide_eq_true_iff] at h1 h3
    subst h1 h3
    obtain ⟨g1, g2, g3⟩ := gl_of h2
    obtain ⟨L, hla⟩ := lamB_ok h5
    refine good_plain ⟨fun pins s σ H Q I q => ?_⟩ rfl
    obtain ⟨ρ, Γ, S, st, rg, q⟩ := q
    rw [ev] at q
    split at q
    · rename_i Fo Fw nm' e1 e2 e3
      split at q
      · rename_i hnm
        subst hnm
        have hk : k < S.length := (List.getElem?_eq_some_iff.mp e3).1
        have hk' : k < ρ.st.length := by rw [st.len]; exact hk
        have hP : ρ.st[k]? = some ρ.st[k] := List.getElem?_eq_getElem hk'
        generalize ρ.st[k] = P at hP
        obtain ⟨qn, ht, tz⟩ := st.at_ k P _ hP e3
        obtain ⟨rfl, c, kk, k1, hcode, TB, hrm, hfns, hout⟩ := lf P qn ht
        obtain ⟨g, fd, hm, hkp, hb, go⟩ := (hout Fo Fw e1 e2).ex
        refine wpAny_Call_Name_kw (ld_glob I g1 (by rw [a.hmg]; exact hm) ?_ g2)
        refine PySem.W.callWith_K (h₀ := X.base) I.ok.mod.kin (by rw [a.hK]; exact hkp) ?_ (by rfl) (by rfl)
        show wpAny _ _ (spliced ((false, eval (.Lambda params body scope lpos) X.env) :: backTo pos (starEach [] X.env))) _ _ s
        refine Calls.spliced_cons (lam_mk I TB hcode tz (fun c z => st.free z) h4 (L.has I.ok) fun f c' dV pm ctv H1 s1 I1 kp t1 dfl hf hfn hfr hco hz => ?_)
        refine Calls.spliced_nil ⟨I1.kIn, ?_⟩
        obtain ⟨n1, st1⟩ := st.tabW hP e3 ht kp t1
        have rg1 := rg.nx0 n1
        have th : Thunk X.prog X.w C X.base (kk + 1) f ρ S (ev Φ G b Γ S) X.stack s1 H1 := by
          intro A' outer' s2 HZ Q' E' hr e0 un nz sz fin
          have hcst : c' ∉ ρ.st := fun z => hz (Rg.of_st z)
          refine lam_run (E := E') (k := kk) (tb := tDE C (fun c d _ H => E' c d H) (ev Φ G b)) I1 L hla h4 dfl hf hfn hfr (fun A outer s3 H3 hr3 => (sb (lamCx X A outer s3 H3 E' scope f c') _ body ?_ h7 h6).1) hr (by rw [a.hK, a.hmg]; exact e0) un (nz.kp c' _ hco hcst) ⟨ρ, Γ, S, sz, rg1.nx0 nz, fin_w fin⟩
          refine ⟨a.hK, a.hmg, rfl, a.nd, ?_, a.blt, a.glob, fun x F hx => ?_, hr3.gd, a.tabs, ⟨?_, hr3.gd⟩, a.xcs, a.sub, a.fld, a.sm, takes_of rfl rfl rfl rfl⟩
          · have := hr3.rm.un
            show (A.deeper (lamEnv X scope s3.heap.objs.size f c')).units + 65 < cLine
            omega
          · obtain ⟨f1, fd1, ps1, w1, w2, w3, w4⟩ := hfns x F hx
            exact ⟨f1, fd1, ps1, kk, w1, w2, w3, w4, hr3⟩
          · exact hr3.rm.mono k1
        have bb : BindsTo s1 fd ⟨[.ref f], []⟩ ([("_law_call" : Str)].zip [.ref f]) := by simpa using hb s1 [.ref f] (by rw [← a.hK]; exact I1.kIn) rfl
        refine wpAny_call (codeAny_mono (go (kk + 1) X.A X.stack s1 H1 ⟨[.ref f], []⟩ f ρ S (ev Φ G b Γ S) Q (fun c d H => W c d σ H) (Nat.le_succ _) hrm (by rw [← a.hK, ← a.hmg]; exact I1.env0) bb ⟨_, _, _, _, _, _, _, _, _, hf⟩ hfn hfr th st1 ?_) ?_)
        · have q := Fin.nx n1 q
          cases e : outc0 Fw (ev Φ G b Γ S) with
          | ok d S' => rw [e] at q; exact q
          | ex c d S' => rw [e] at q; exact q
          | bad => rw [e] at q; exact q
        · intro out s' z
          match out, z with
          | .error e, z => exact passAt a.tk σ pins H1 s1 e s' I1 z
          | .ok (.ret u), z => exact I1.after z
          | .ok .next, z => exact z.elim
          | .ok .brk, z => exact z.elim
          | .ok .cont, z => exact z.elim
      · exact q.elim
    · exact q.elim
  · cases h
end
end EK

set_option Elab.async false
set_option linter.all false
set_option maxRecDepth 100000
set_option maxHeartbeats 4000000
namespace EK
open PySem L2 PySem.Spec PyProof.Rows
section
variable {X : Cx} {C : Ct} {Φ : Str → Option Fsem} {G : Str → Option D} {W : WX} {e : Expr}
/-! ### sorted(set(..)), xs.pop() -/
theorem g_mkk (a : At X C Φ G W) {c f : Str} {c1 : CE} (h : chk X.N X.env.scope (.mkk c f c1) e = true) (i1 : ∀ e, chk X.N X.env.scope c1 e = true → Good X C W e (ev Φ G c1)) : Good X C W e (ev Φ G (.mkk c f c1)) := by
  rw [chk.eq_def] at h
  dsimp only at h
  split at h
  · rename_i x p g y kp q0
    obtain ⟨h, h4⟩ := and2 h
    obtain ⟨h, h3⟩ := and2 h
    obtain ⟨h1, h2⟩ := and2 h
    rw [decide_eq_true_iff] at h1 h3
    subst h1 h3
    obtain ⟨g1, g2, g3⟩ := gl_of h2
    by_cases hc : (isFn x (G x) = true ∧ isXc x = true) ∧ fldT x = g
    · obtain ⟨Ca, hm, hm'⟩ := isFn_at a hc.1.1
      obtain ⟨r, er, ef⟩ := isXc_at hc.1.2
      have T := a.xcs x r Ca er hm
      obtain ⟨B, n1, n2, bmB, T1⟩ := T.xc
      have eg : r.1 = g := ef.symm.trans hc.2
      rw [eg] at T1
      refine good_plain ((pe_mkk (p := p) (pos := q0) (kp := kp) T1 (a.blt _ (by decide)) a.rm.rm g1 hm (i1 y h4).1 g2).mono fun σ H Q q => ?_) rfl
      obtain ⟨ρ, Γ, S, st, rg, q⟩ := q
      rw [ev, if_pos hc] at q
      refine tDE_bind st rg q fun d S1 v H1 n1 s1 r1 rg1 q1 => ?_
      intro b dd nb nd hne
      split at q1
      · rename_i hn
        have nb' : (upd H1 dd (.xd [(g, v)])) b = none := by rw [upd_ne (Ne.symm hne)]; exact nb
        have N : Nx H1 ρ (upd (upd H1 dd (.xd [(g, v)])) b (ExT (.ref Ca) (some dd) b)) ρ := (Nx.new nd).trans (Nx.new nb')
        refine q1 (.ref b) _ N ((s1.new nd).new nb') (.inl (.exc1 hm' upd_same (s1.free nb) ?_ (s1.free nd) ((r1.d hn).nx N)))
        rw [upd_ne hne, upd_same, a.fld, hc.2]
      · exact q1.elim
    · refine good_plain ⟨fun pins s σ H Q I q => ?_⟩ rfl
      obtain ⟨ρ, Γ, S, st, rg, q⟩ := q
      rw [ev, if_neg hc] at q
      exact q.elim
  · cases h
theorem g_mk0 (a : At X C Φ G W) {c : Str} {c1 : CE} (h : chk X.N X.env.scope (.mk0 c c1) e = true) (i1 : ∀ e, chk X.N X.env.scope c1 e = true → Good X C W e (ev Φ G c1)) : Good X C W e (ev Φ G (.mk0 c c1)) := by
  rw [chk.eq_def] at h
  dsimp only at h
  split at h
  · rename_i x p y q0
    obtain ⟨h, h4⟩ := and2 h
    obtain ⟨h, h3⟩ := and2 h
    obtain ⟨h1, h2⟩ := and2 h
    rw [decide_eq_true_iff] at h1
    subst h1
    obtain ⟨g1, g2, g3⟩ := gl_of h2
    by_cases hc : isFn x (G x) = true ∧ x = "EvenError"
    · obtain ⟨Ca, hm, hm'⟩ := isFn_at a hc.1
      obtain ⟨B, n1, n2, bmB, T1⟩ := (a.sub.ev Ca (by rw [← hc.2]; exact hm)).x0
      refine good_plain ((pe_mk0 (p := p) (pos := q0) T1 g1 hm (i1 y h4).1 g2 (star_of h3)).mono fun σ H Q q => ?_) rfl
      obtain ⟨ρ, Γ, S, st, rg, q⟩ := q
      rw [ev, if_pos hc] at q
      refine tDE_bind st rg q fun d S1 v H1 n1 s1 r1 rg1 q1 => ?_
      intro b nb
      exact q1 (.ref b) _ (Nx.new nb) (s1.new nb) (.inl (.exc0 hm' upd_same (s1.free nb)))
    · refine good_plain ⟨fun pins s σ H Q I q => ?_⟩ rfl
      obtain ⟨ρ, Γ, S, st, rg, q⟩ := q
      rw [ev, if_neg hc] at q
      exact q.elim
  · cases h
theorem bt_boot {T : String} (h : T ∈ ["ValueError", "OverflowError", "LookupError"]) : bootBuiltins (T : Str) = some (.type T) ∧ (T : Str) ∈ bltNames ∧ (T : Str) ≠ "__name__" ∧ ((T : Str) == ("__debug__" : Str)) = false := by
  simp only [List.mem_cons, List.not_mem_nil, or_false] at h
  rcases h with rfl | rfl | rfl
  · exact ⟨by decide +kernel, by decide, by decide, by decide⟩
  · exact ⟨by decide +kernel, by decide, by decide, by decide⟩
  · exact ⟨by decide +kernel, by decide, by decide, by decide⟩
theorem g_isb (a : At X C Φ G W) {T : String} {c1 : CE} (h : chk X.N X.env.scope (.isb c1 T) e = true) (i1 : ∀ e, chk X.N X.env.scope c1 e = true → Good X C W e (ev Φ G c1)) : Good X C W e (ev Φ G (.isb c1 T)) := by
  rw [chk.eq_def] at h
  dsimp only at h
  split at h
  · rename_i x p y t p2 p3
    obtain ⟨h, h7⟩ := and2 h
    obtain ⟨h, h6⟩ := and2 h
    obtain ⟨h, h5⟩ := and2 h
    obtain ⟨h, h4⟩ := and2 h
    obtain ⟨h, h3⟩ := and2 h
    obtain ⟨h1, h2⟩ := and2 h
    rw [decide_eq_true_iff] at h1 h3 h5
    subst h1 h3
    obtain ⟨b1, b2, b3, b4⟩ := bt_boot h5
    obtain ⟨g1, _, _⟩ := gl_of h2
    obtain ⟨g2, _, _⟩ := gl_of h4
    have ht : PE X (.Name (T : Str) p2) (tC (.ty T)) := pe_bltn g2 (a.blt _ b2) b1 rfl b3 b4
    refine good_plain ((pe_callB call_isX g1 (a.blt _ (by decide)) boot_isinstance (pa_cons (i1 y h7).1 (pa_cons ht pa_nil) (star_of h6)) (by decide) (by decide) (star_of h6) rfl).mono fun σ H Q q => ?_) rfl
    obtain ⟨ρ, Γ, S, st, rg, q⟩ := q
    rw [ev] at q
    refine tDE_bind st rg q fun d S1 v H1 n1 s1 r1 rg1 q1 => ?_
    split at q1
    · rename_i c ds
      obtain ⟨z, hz, q2⟩ := lift_fin q1
      rw [Option.map_eq_some_iff] at hz
      obtain ⟨b, hb, rfl⟩ := hz
      have ecx : ∀ Ca, X.mg c = some (.ref Ca) → ExcC X.K Ca := fun Ca hm => by
        unfold subU at hb
        cases e : xcT.lookup c with
        | some r => exact (a.xcs c r Ca e hm).ec
        | none =>
          rw [e] at hb
          dsimp only at hb
          split at hb
          · rename_i q
            rw [q] at hm
            exact (a.sub.ev Ca hm).ec
          · cases hb
      have rd := r1.d (by rfl)
      have fin : ∀ {bb Ca : Addr} {d : Option Addr}, C.mg c = some (.ref Ca) → H1 bb = some (ExT (.ref Ca) d bb) → (∀ dd, d = some dd → ∃ fs, H1 dd = some (.xd fs)) → v = .ref bb → rIsX X.K [v, .ty T] H1 Q := fun {bb Ca d} m h1 h2 ev => by
        have m' : X.mg c = some (.ref Ca) := by rw [a.hmg]; exact m
        exact ⟨bb, Ca, d, .ty T, .type T, b, by rw [ev], ecx Ca m', h1, h2, fun u hu => hu, a.sub.bt c T b Ca h5 hb m', q2 _ H1 (Nx.refl _ _) s1 (.bl b)⟩
      cases rd with
      | exc0 m h1 h2 => exact fin m h1 (fun dd z => by cases z) rfl
      | exc1 m h1 h2 h3 h4 h5 => exact fin m h1 (fun dd z => by cases z; exact ⟨_, h3⟩) rfl
    · exact q1.elim
  · cases h
theorem g_srs (a : At X C Φ G W) {c1 : CE} (h : chk X.N X.env.scope (.srs c1) e = true) (i1 : ∀ e, chk X.N X.env.scope c1 e = true → Good X C W e (ev Φ G c1)) : Good X C W e (ev Φ G (.srs c1)) := by
  rw [chk.eq_def] at h
  dsimp only at h
  split at h
  · rename_i x p y p2 z p3 p4
    obtain ⟨h, h6⟩ := and2 h
    obtain ⟨h, h5⟩ := and2 h
    obtain ⟨h, h4⟩ := and2 h
    obtain ⟨h, h3⟩ := and2 h
    obtain ⟨h1, h2⟩ := and2 h
    rw [decide_eq_true_iff] at h1 h3
    subst h1 h3
    obtain ⟨g1, _, _⟩ := gl_of h2
    obtain ⟨g2, _, _⟩ := gl_of h4
    refine good_plain ((pe_srs a.hK a.calm a.units g1 (a.blt _ (by decide)) g2 (a.blt _ (by decide)) (i1 z h6).1 (star_of h5)).mono fun σ H Q q => ?_) rfl
    obtain ⟨ρ, Γ, S, st, rg, q⟩ := q
    rw [ev] at q
    refine tDE_bind st rg q fun d S1 v H1 n1 s1 r1 rg1 q1 => ?_
    obtain ⟨z, hz, q2⟩ := lift_fin q1
    exact ⟨ρ, S1, _, z, s1, r1.vw s1, hz, q2⟩
  · cases h
theorem g_ned (a : At X C Φ G W) {c1 c2 : CE} (h : chk X.N X.env.scope (.ned c1 c2) e = true) (i1 : ∀ e, chk X.N X.env.scope c1 e = true → Good X C W e (ev Φ G c1)) (i2 : ∀ e, chk X.N X.env.scope c2 e = true → Good X C W e (ev Φ G c2)) :
    Good X C W e (ev Φ G (.ned c1 c2)) := by
  rw [chk.eq_def] at h
  dsimp only at h
  split at h
  · rename_i x y p
    obtain ⟨h, h3⟩ := and2 h
    obtain ⟨h4, h2⟩ := and2 h
    have imp : ∀ σ H Q, tDE C W (ev Φ G (.ned c1 c2)) σ H Q → tOp (rP2 C nedD) (tDE C W (ev Φ G c1)) (tDE C W (ev Φ G c2)) σ H Q := fun σ H Q q => two_imp (by
      obtain ⟨ρ, Γ, S, st, rg, q⟩ := q
      rw [ev] at q
      exact ⟨ρ, Γ, S, st, rg, q⟩)
    exact ⟨(pe_cmpR (op_ned a.hK a.units) (i1 x h2).1 (i2 y h3).1 (nomark_of h4)).mono imp,
      fun _ => (pt_cmpR (op_ned a.hK a.units) (i1 x h2).1 (i2 y h3).1 (nomark_of h4)).mono fun σ H Q q => imp _ _ _ (tDT_tDE q), fun _ _ _ z => by cases z⟩
  · cases h
theorem g_pop (a : At X C Φ G W) {i : Nat} (h : chk X.N X.env.scope (.pop i) e = true) : Good X C W e (ev Φ G (.pop i)) := by
  rw [chk.eq_def] at h
  dsimp only at h
  split at h
  · rename_i x p n ap cp
    obtain ⟨h, h3⟩ := and2 h
    obtain ⟨h1, h2⟩ := and2 h
    rw [decide_eq_true_iff] at h1
    subst h1
    unfold varB at h2
    obtain ⟨h2, k4⟩ := and2 h2
    obtain ⟨h2, k3⟩ := and2 h2
    obtain ⟨k1, k2⟩ := and2 h2
    rw [decide_eq_true_iff] at k1
    have vp : PE X (.Name x p) (tVar i) := pe_var k1 (vis_of k2) (by simpa using k3) (by simpa using k4)
    refine good_plain ((pe_bm0 PySem.F.plainAttrs_list PySem.F.slot_list_pop PySem.F.type_list_pop mt_pop vp rfl h3).mono fun σ H Q q => ?_) rfl
    obtain ⟨ρ, Γ, S, st, rg, q⟩ := q
    rw [ev] at q
    split at q
    · rename_i k hk
      split at q
      · rename_i ds hS
        split at q
        · rename_i d hd
          obtain ⟨v, hv, rv⟩ := rg.at_ i _ hk
          rcases rv with rv | ⟨k', b, e1, rfl, h5⟩
          · exact absurd rfl (rv.noloc (k := k))
          · cases e1
            obtain ⟨xs, hx, ra⟩ := st.at_ k b _ h5 hS
            have hl : ds[ds.length - 1]? = some d := by rw [← List.getLast?_eq_getElem?]; exact hd
            obtain ⟨y, hy, ry⟩ := ra.get' hl
            have hm : b ∈ ρ.st := List.mem_of_getElem? h5
            have hn := Nx.mut (H := H) (ρ := ρ) (o := .lst xs.dropLast) hm
            have rd : RepA C H ρ xs.dropLast ds.dropLast := by
              rw [List.dropLast_eq_take, List.dropLast_eq_take, ra.length]
              exact ra.take _
            refine ⟨_, hv, .inl ⟨rfl, xs, .inl (.inl hx)⟩, b, xs, y, rfl, rfl, hx, by rw [ra.length]; exact hy, ?_⟩
            exact q y _ hn (st.mut h5 ⟨_, upd_same, rd.nx hn⟩) (.inl (ry.nx hn))
        · exact q.elim
      · exact q.elim
    · exact q.elim
  · cases h
end
end EK

set_option Elab.async false
set_option linter.all false
set_option maxRecDepth 100000
set_option maxHeartbeats 4000000
namespace EK
open PySem L2 PySem.Spec PyProof.Rows
section
variable {X : Cx} {C : Ct} {Φ : Str → Option Fsem} {G : Str → Option D} {W : WX} {e : Expr} {f : Gam → Sto → R} {t : TE}
/-- a term is good wherever one stands -/
def Snd (C : Ct) (Φ : Str → Option Fsem) (G : Str → Option D) (c : CE) : Prop := ∀ (X : Cx) (W : WX) (e : Expr), At X C Φ G W → chk X.N X.env.scope c e = true → (noO c = true ∨ LamF X C Φ) → Good X C W e (ev Φ G c)
def tYesD : Gam → Sto → R := fun _ S => .ok (.bl true) S
theorem g_lc (a : At X C Φ G W) {elt cond : CE} {tg : Tg} {ik : Ik} {ia : List CE} {own : List (Str × Nat)} (h : chk X.N X.env.scope (.lc elt tg ik ia cond own) e = true) (s1 : Snd C Φ G elt) (s2 : Snd C Φ G cond) (s3 : ∀ c ∈ ia, Snd C Φ G c) (hl : ∀ c ∈ ia, noO c = true ∨ LamF X C Φ) :
    ∃ el tgt iter ifs scope p wi tt te, e = .ListComp el [⟨tgt, iter, ifs, 0⟩] scope p ∧ plainB iter = true ∧ PI X tgt iter wi ∧ BlkOk X.N X.env.scope scope own ∧
      (∀ (s : Shared) (H : Hp) (Ca : Addr) (cl : List (Str × Addr)) (fp : List Addr), PG (X.blk s H scope (compEnvC scope cl Ca X.env) fp) tgt (gT C.K tg)) ∧ (∀ (s : Shared) (H : Hp) (Ca : Addr) (cl : List (Str × Addr)) (fp : List Addr), PTs (X.blk s H scope (compEnvC scope cl Ca X.env) fp) ifs tt) ∧
      (∀ (s : Shared) (H : Hp) (Ca : Addr) (cl : List (Str × Addr)) (fp : List Addr), PE (X.blk s H scope (compEnvC scope cl Ca X.env) fp) el te) ∧
      ∀ σ H Q, tDE C W (ev Φ G (.lc elt tg ik ia cond own)) σ H Q → tLc wi (gT C.K tg) tt te (own.map (·.2)) σ H Q := by
  rw [chk.eq_def] at h
  dsimp only at h
  split at h
  · rename_i el tgt iter ifs scope p
    obtain ⟨h, h7⟩ := and2 h
    obtain ⟨h, h6⟩ := and2 h
    obtain ⟨h, h5⟩ := and2 h
    obtain ⟨h, h4⟩ := and2 h
    obtain ⟨h, h3⟩ := and2 h
    obtain ⟨h, h2⟩ := and2 h
    obtain ⟨h, h1⟩ := and2 h
    obtain ⟨n1, n2⟩ := and2 h
    have h7 : chkI X.N X.env.scope ik ia iter tgt = true := h7
    have hpi := pi_ok a h7 (fun c hc e' q => s3 c hc X W e' a q (hl c hc))
    -- the tests and the element are read alike in every block
    have htt : ∃ tt, (∀ (s : Shared) (H : Hp) (Ca : Addr) (cl : List (Str × Addr)) (fp : List Addr), PTs (X.blk s H scope (compEnvC scope cl Ca X.env) fp) ifs tt) ∧ ∀ σ H Q, tDT C (fun _ _ _ _ => False) (ev Φ G cond) σ H Q → tt σ H Q := by
      match ifs, h6 with
      | [], h6 =>
        refine ⟨tYes, fun _ _ _ _ _ => pts_nil, fun σ H Q q => ?_⟩
        dsimp only at h6
        split at h6
        · obtain ⟨ρ, Γ, S, st, rg, q⟩ := q
          rw [ev] at q
          obtain ⟨b, e, q⟩ := q
          cases e
          exact q H (Nx.refl _ _) st
        · cases h6
      | [c], h6 =>
        obtain ⟨k1, k2⟩ := and2 h6
        exact ⟨_, fun s H Ca cl fp => pts_one ((s2 _ _ c (a.blk s H scope (compEnvC scope cl Ca X.env) fp) k2 (.inl n2)).2.1 k1), fun _ _ _ q => q⟩
      | _ :: _ :: _, h6 => cases h6
    obtain ⟨tt, ht1, ht2⟩ := htt
    refine ⟨el, tgt, iter, ifs, scope, p, _, tt, tDE C (fun _ _ _ _ => False) (ev Φ G elt), rfl, h1, hpi, blkOk_by h2, fun s H Ca cl fp => tg_ok (X := X.blk s H scope (compEnvC scope cl Ca X.env) fp) a.hK a.calm a.nd (fun z => by cases z) h3, ht1, fun s H Ca cl fp => (s1 _ _ el (a.blk s H scope (compEnvC scope cl Ca X.env) fp) h5 (.inl n1)).1, fun σ H Q q => ?_⟩
    obtain ⟨ρ, Γ, S, st, rg, q⟩ := q
    rw [ev] at q
    refine ⟨ρ, Γ, S, st, rg, ?_⟩
    cases e1 : evs Φ G ia Γ S with
    | bad => rw [e1] at q; exact q
    | ex c d S' => rw [e1] at q; exact q
    | ok ds S1 =>
      rw [e1] at q
      have q : Fin C W ρ σ H Q (match itD ik ds with | some items => if items.length ≤ szL then lcLoop (ev Φ G cond) (ev Φ G elt) tg (wipeG Γ (own.map (·.2))) items [] S1 else .bad | none => .bad) := q
      cases e2 : itD ik ds with
      | none => rw [e2] at q; exact q.elim
      | some items =>
        rw [e2] at q
        dsimp only at q
        split at q
        · rename_i hz
          refine ⟨items, e2, fun J H1 n1 st1 hj Dl hD => ?_⟩
          refine lc_rec st1 (rg.nx0 n1) hj hD hz (fun i hi => ?_) ht2 (fun _ _ _ q => q) (Fin.nx n1 q)
          have := List.all_eq_true.mp h4 i hi
          simpa using this
        · exact q.elim
  · cases h
theorem g_lcE (a : At X C Φ G W) {elt cond : CE} {tg : Tg} {ik : Ik} {ia : List CE} {own : List (Str × Nat)} (h : chk X.N X.env.scope (.lc elt tg ik ia cond own) e = true) (s1 : Snd C Φ G elt) (s2 : Snd C Φ G cond) (s3 : ∀ c ∈ ia, Snd C Φ G c) (hl : ∀ c ∈ ia, noO c = true ∨ LamF X C Φ) :
    Good X C W e (ev Φ G (.lc elt tg ik ia cond own)) := by
  obtain ⟨el, tgt, iter, ifs, scope, p, wi, tt, te, rfl, h1, hpi, hb, hg, ht, he, imp⟩ := g_lc a h s1 s2 s3 hl
  exact good_plain ((pe_lc a.calm a.nd hpi hb hg ht he (folded_of h1)).mono imp) rfl
/-! ### the dict display -/
def dtr (C : Ct) (W : WX) (Φ : Str → Option Fsem) (G : Str → Option D) : List Key → List CE → List (TE × TE)
  | k :: ks, c :: cs => (tC (kV k), tDE C W (ev Φ G c)) :: dtr C W Φ G ks cs
  | _, _ => []
theorem key_pe {k : Key} {c : Const} {j : Nat} {p : Pos} (h : keyB k c = true) : PE X (.Constant c j p) (tC (kV k)) := by
  unfold keyB at h
  split at h
  · rw [decide_eq_true_iff] at h; subst h; exact pe_int
  · rw [decide_eq_true_iff] at h; subst h; exact pe_str
  · cases h
theorem pps_of (a : At X C Φ G W) {p : Pos} : ∀ {ks : List Key} {cs : List CE} {keys : List (Option Expr)} {vals : List Expr}, keysB ks keys = true → chks X.N X.env.scope cs vals = true → keys.length = vals.length → (∀ c ∈ cs, Snd C Φ G c) → (∀ c ∈ cs, noO c = true ∨ LamF X C Φ) →
    PPs X p keys vals (dtr C W Φ G ks cs) ∧ keys.all (·.isSome) = true ∧ ks.length = keys.length
  | [], cs, keys, vals, h1, h2, hl, s, lf => by
    unfold keysB at h1
    split at h1
    · have : vals = [] := List.eq_nil_of_length_eq_zero hl.symm
      subst this
      have := chks_len h2
      have : cs = [] := List.eq_nil_of_length_eq_zero this
      subst this
      exact ⟨pps_nil, rfl, rfl⟩
    · rename_i z; cases z
    · cases h1
  | k :: ks, cs, keys, vals, h1, h2, hl, s, lf => by
    unfold keysB at h1
    split at h1
    · rename_i z; cases z
    · rename_i k' ks' c j q r z
      cases z
      obtain ⟨h1, h3⟩ := and2 h1
      match vals, hl with
      | v :: vals, hl =>
        obtain ⟨c0, cs', rfl⟩ := chks_head h2
        obtain ⟨_, h5, h6⟩ := chks_tail h2
        obtain ⟨i1, i2, i3⟩ := pps_of a (p := p) h3 h6 (by simpa using hl) (fun c hc => s c (List.mem_cons_of_mem _ hc)) fun c hc => lf c (List.mem_cons_of_mem _ hc)
        exact ⟨pps_cons (key_pe h1) (s c0 List.mem_cons_self X W v a h5 (lf c0 List.mem_cons_self)).1 i1, by rw [List.all_cons, i2]; rfl, by rw [List.length_cons, List.length_cons, i3]⟩
    · cases h1
theorem pairs_imp : ∀ {ks : List Key} {cs : List CE} {Γ : Gam} {S : Sto} {H : Hp} {ρ : Rg} {σ : L2.St} {Q : List V → Hp → Prop}, ks.length = cs.length → StOk C H ρ S → RepG C H ρ σ Γ → FinA C W ρ σ H Q (evs Φ G cs Γ S) →
    tPairs (dtr C W Φ G ks cs) σ H fun ps H2 => ∃ ws, ws.length = ks.length ∧ ps = (ks.zip ws).map (fun kv => (kV kv.1, kv.2)) ∧ Q ws H2
  | [], [], Γ, S, H, ρ, σ, Q, _, st, rg, q => by
    rw [evs] at q
    exact ⟨[], rfl, rfl, q [] H (Nx.refl _ _) st .nil⟩
  | k :: ks, c :: cs, Γ, S, H, ρ, σ, Q, hl, st, rg, q => by
    rw [evs] at q
    show tDE C W (ev Φ G c) σ H _
    refine ⟨ρ, Γ, S, st, rg, ?_⟩
    cases e1 : ev Φ G c Γ S with
    | bad => rw [e1] at q; exact q
    | ex c d S' => rw [e1] at q; exact q
    | ok d S1 =>
      rw [e1] at q
      dsimp only at q
      intro v H1 n1 s1 r1
      have q' : FinA C W ρ σ H1 (fun ws H2 => Q (v :: ws) H2) (evs Φ G cs Γ S1) := by
        cases e2 : evs Φ G cs Γ S1 with
        | bad => rw [e2] at q; exact q
        | ex c d S' => rw [e2] at q; exact fun Ca dd v H2 e n s q' nd r => q Ca dd v H2 e (n1.trans n) s q' nd r
        | ok ds S2 => rw [e2] at q; exact fun vs H2 n2 s2 r2 => q (v :: vs) H2 (n1.trans n2) s2 (.cons (r1.nx0 n2) r2)
      have ih := pairs_imp (ks := ks) (cs := cs) (by simpa using hl) s1 (rg.nx0 n1) q'
      have mono : ∀ (trs : List (TE × TE)) (σ : L2.St) (H : Hp) (P P' : List (V × V) → Hp → Prop), (∀ ps H, P ps H → P' ps H) → True := fun _ _ _ _ _ _ => trivial
      exact tPairs_mono ih fun ps H2 ⟨ws, h1, h2, h3⟩ => ⟨v :: ws, by rw [List.length_cons, List.length_cons, h1], by rw [h2]; rfl, h3⟩
  | [], _ :: _, _, _, _, _, _, _, hl, _, _, _ => by cases hl
  | _ :: _, [], _, _, _, _, _, _, hl, _, _, _ => by cases hl
where tPairs_mono : ∀ {ks : List Key} {cs : List CE} {σ : L2.St} {H : Hp} {P P' : List (V × V) → Hp → Prop}, tPairs (dtr C W Φ G ks cs) σ H P → (∀ ps H, P ps H → P' ps H) → tPairs (dtr C W Φ G ks cs) σ H P'
  | k :: ks, c :: cs, σ, H, P, P', h, i => by
    obtain ⟨ρ, Γ, S, st, rg, h⟩ := h
    refine ⟨ρ, Γ, S, st, rg, ?_⟩
    cases e : ev Φ G c Γ S with
    | bad => rw [e] at h; exact h
    | ex c d S' => rw [e] at h; exact h
    | ok d S1 =>
      rw [e] at h
      exact fun v H1 n s r => tPairs_mono (ks := ks) (cs := cs) (h v H1 n s r) fun ps H2 q => i _ _ q
  | [], cs, σ, H, P, P', h, i => by cases cs <;> exact i _ _ h
  | _ :: _, [], σ, H, P, P', h, i => i _ _ h

theorem putK_new {kvs : List (Key × V)} {k : Key} {v : V} (h : k ∉ kvs.map (·.1)) : putK kvs k v = kvs ++ [(k, v)] := by
  unfold putK
  rw [if_neg]
  intro z
  rw [List.any_eq_true] at z
  obtain ⟨kv, h1, h2⟩ := z
  rw [decide_eq_true_iff] at h2
  exact h (List.mem_map.mpr ⟨kv, h1, h2⟩)
theorem merge_nodup : ∀ (more kvs : List (Key × V)), ((kvs ++ more).map (·.1)).Nodup → mergeK kvs more = kvs ++ more
  | [], kvs, _ => by rw [List.append_nil]; rfl
  | p :: r, kvs, h => by
    show mergeK (putK kvs p.1 p.2) r = _
    have h1 : p.1 ∉ kvs.map (·.1) := by
      rw [List.map_append, List.nodup_append] at h
      intro z
      exact h.2.2 p.1 z p.1 (by simp) rfl
    rw [putK_new h1, merge_nodup r _ (by rw [List.append_assoc]; exact h), List.append_assoc]
    rfl
theorem zip_fst : ∀ {α β : Type} (ks : List α) (ws : List β), ws.length = ks.length → (ks.zip ws).map (·.1) = ks ∧ (ks.zip ws).map (·.2) = ws
  | _, _, [], [], _ => ⟨rfl, rfl⟩
  | _, _, k :: ks, w :: ws, h => by
    obtain ⟨h1, h2⟩ := zip_fst ks ws (by simpa using h)
    exact ⟨by rw [List.zip_cons_cons, List.map_cons, h1], by rw [List.zip_cons_cons, List.map_cons, h2]⟩
  | _, _, [], _ :: _, h => by cases h
  | _, _, _ :: _, [], h => by cases h
theorem g_dic (a : At X C Φ G W) {ks : List Key} {vs : List CE} (h : chk X.N X.env.scope (.dic ks vs) e = true) (s : ∀ c ∈ vs, Snd C Φ G c) (lf : ∀ c ∈ vs, noO c = true ∨ LamF X C Φ) : Good X C W e (ev Φ G (.dic ks vs)) := by
  rw [chk.eq_def] at h
  dsimp only at h
  split at h
  · obtain ⟨h1, h2⟩ := and2 h
    rw [List.isEmpty_iff] at h1 h2
    subst h1 h2
    refine good_plain (pe_dnewK.mono fun σ H Q q => ?_) rfl
    obtain ⟨ρ, Γ, S, st, rg, q⟩ := q
    intro p hp
    exact q (.ref p) _ (Nx.new hp) (st.new hp) (.inl (.dic upd_same (st.free hp) rfl .nil))
  · rename_i keys vals p _
    obtain ⟨h, h3⟩ := and2 h
    obtain ⟨h, h2⟩ := and2 h
    obtain ⟨h1, hl⟩ := and2 h
    rw [decide_eq_true_iff] at h1 hl
    have hcl := chks_len h3
    · obtain ⟨i1, i2, i3⟩ := pps_of a (p := p) h2 h3 hl.1 s lf
      refine good_plain ((pe_dispP i1 i2 hl.1 (fun z => h1 (by rw [z]; rfl)) hl.2).mono fun σ H Q q => ?_) rfl
      obtain ⟨ρ, Γ, S, st, rg, q⟩ := q
      rw [ev] at q
      have key : FinA C W ρ σ H (fun ws H2 => ∀ p, H2 p = none → ws.length = ks.length → Q (.ref p) (upd H2 p (.dK (mergeK [] (ks.zip ws))))) (evs Φ G vs Γ S) := by
        cases e1 : evs Φ G vs Γ S with
        | bad => rw [e1] at q; exact q
        | ex c d S' => rw [e1] at q; exact q
        | ok ds S1 =>
          rw [e1] at q
          have q : Fin C W ρ σ H Q (if ds.all noLoc = true ∧ ds.length = ks.length ∧ ks.length ≤ 15 ∧ ks.Nodup then .ok (.dic (ks.zip ds)) S1 else .bad) := q
          split at q
          · rename_i hc
            intro ws H2 n2 s2 r2 p hp hw
            have ra := paired_d r2 hc.1
            obtain ⟨z1, z2⟩ := zip_fst ks ws hw
            obtain ⟨z3, z4⟩ := zip_fst ks ds hc.2.1
            rw [merge_nodup _ _ (by rw [List.nil_append, z1]; exact hc.2.2.2), List.nil_append]
            refine q (.ref p) _ (n2.trans (Nx.new hp)) (s2.new hp) (.inl (.dic upd_same (s2.free hp) (by rw [z1, z3]) ?_))
            rw [z2, z4]
            exact ra.nx (Nx.new hp)
          · exact q.elim
      refine pairs_imp.tPairs_mono (pairs_imp (ks := ks) (cs := vs) (by omega) st rg key) fun ps H2 ⟨ws, w1, w2, w3⟩ => ⟨ks.zip ws, w2, ?_, fun p hp => w3 p hp w1⟩
      rw [List.length_zip]; omega
  · cases h

theorem o2 {p q : Bool} {P : Prop} (h : (p && q) = true ∨ P) : (p = true ∨ P) ∧ (q = true ∨ P) := by
  rcases h with h | h
  · exact ⟨.inl (and2 h).1, .inl (and2 h).2⟩
  · exact ⟨.inr h, .inr h⟩
theorem os {cs : List CE} {P : Prop} (h : noOs cs = true ∨ P) : ∀ c ∈ cs, noO c = true ∨ P := fun c hc => h.imp (fun z => noOs_mem z hc) id
mutual
/-- THE THEOREM for expressions: a term that passes the check is what the expression does -/
theorem sound : ∀ c : CE, Snd C Φ G c
  | .var i => fun X W e a h l => g_var a h
  | .con d => fun X W e a h l => g_con a h
  | .glob x => fun X W e a h l => g_glob a h
  | .bin op c1 c2 => fun X W e a h l => g_bin a h (fun e q => sound c1 X W e a q (o2 (show (noO c1 && noO c2) = true ∨ _ from l)).1) (fun e q => sound c2 X W e a q (o2 (show (noO c1 && noO c2) = true ∨ _ from l)).2)
  | .neg c1 => fun X W e a h l => g_neg a h (fun e q => sound c1 X W e a q (show noO c1 = true ∨ _ from l))
  | .not c1 => fun X W e a h l => g_not a h (fun e q => sound c1 X W e a q (show noO c1 = true ∨ _ from l))
  | .cmp op c1 c2 => fun X W e a h l => g_cmp a h (fun e q => sound c1 X W e a q (o2 (show (noO c1 && noO c2) = true ∨ _ from l)).1) (fun e q => sound c2 X W e a q (o2 (show (noO c1 && noO c2) = true ∨ _ from l)).2)
  | .chain o1 o2' c1 c2 c3 => fun X W e a h l => g_chain a h (fun e q => sound c1 X W e a q (o2 (show (noO c1 && (noO c2 && noO c3)) = true ∨ _ from l)).1) (fun e q => sound c2 X W e a q (o2 (o2 (show (noO c1 && (noO c2 && noO c3)) = true ∨ _ from l)).2).1) (fun e q => sound c3 X W e a q (o2 (o2 (show (noO c1 && (noO c2 && noO c3)) = true ∨ _ from l)).2).2)
  | .and c1 c2 => fun X W e a h l => g_and a h (fun e q => sound c1 X W e a q (o2 (show (noO c1 && noO c2) = true ∨ _ from l)).1) (fun e q => sound c2 X W e a q (o2 (show (noO c1 && noO c2) = true ∨ _ from l)).2)
  | .or c1 c2 => fun X W e a h l => g_or a h (fun e q => sound c1 X W e a q (o2 (show (noO c1 && noO c2) = true ∨ _ from l)).1) (fun e q => sound c2 X W e a q (o2 (show (noO c1 && noO c2) = true ∨ _ from l)).2)
  | .ite c1 c2 c3 => fun X W e a h l => g_ite a h (fun e q => sound c1 X W e a q (o2 (show (noO c1 && (noO c2 && noO c3)) = true ∨ _ from l)).1) (fun e q => sound c2 X W e a q (o2 (o2 (show (noO c1 && (noO c2 && noO c3)) = true ∨ _ from l)).2).1) (fun e q => sound c3 X W e a q (o2 (o2 (show (noO c1 && (noO c2 && noO c3)) = true ∨ _ from l)).2).2)
  | .call f args => fun X W e a h l => g_call a h (AllGood.args fun c hc e q => sounds args c hc X W e a q (os (show noOs args = true ∨ _ from l) c hc))
  | .blt f args => fun X W e a h l => g_blt a h (AllGood.args fun c hc e q => sounds args c hc X W e a q (os (show noOs args = true ∨ _ from l) c hc))
  | .isi c1 T => fun X W e a h l => g_isi a h (fun e q => sound c1 X W e a q (show noO c1 = true ∨ _ from l))
  | .mth m c1 c2 => fun X W e a h l => g_mth a h (fun e q => sound c1 X W e a q (o2 (show (noO c1 && noO c2) = true ∨ _ from l)).1) (fun e q => sound c2 X W e a q (o2 (show (noO c1 && noO c2) = true ∨ _ from l)).2)
  | .dget c1 c2 c3 => fun X W e a h l => g_dget a h (fun e q => sound c1 X W e a q (o2 (show (noO c1 && (noO c2 && noO c3)) = true ∨ _ from l)).1) (fun e q => sound c2 X W e a q (o2 (o2 (show (noO c1 && (noO c2 && noO c3)) = true ∨ _ from l)).2).1) (fun e q => sound c3 X W e a q (o2 (o2 (show (noO c1 && (noO c2 && noO c3)) = true ∨ _ from l)).2).2)
  | .idx c1 c2 => fun X W e a h l => g_idx a h (fun e q => sound c1 X W e a q (o2 (show (noO c1 && noO c2) = true ∨ _ from l)).1) (fun e q => sound c2 X W e a q (o2 (show (noO c1 && noO c2) = true ∨ _ from l)).2)
  | .sl c1 c2 c3 => fun X W e a h l => g_sl a h (fun e q => sound c1 X W e a q (o2 (show (noO c1 && (noO c2 && noO c3)) = true ∨ _ from l)).1) (fun e q => sound c2 X W e a q (o2 (o2 (show (noO c1 && (noO c2 && noO c3)) = true ∨ _ from l)).2).1) (fun e q => sound c3 X W e a q (o2 (o2 (show (noO c1 && (noO c2 && noO c3)) = true ∨ _ from l)).2).2)
  | .rev c1 => fun X W e a h l => g_rev a h (fun e q => sound c1 X W e a q (show noO c1 = true ∨ _ from l))
  | .tup es => fun X W e a h l => g_tup a h (AllGood.args fun c hc e q => sounds es c hc X W e a q (os (show noOs es = true ∨ _ from l) c hc))
  | .lst es => fun X W e a h l => g_lst a h (AllGood.args fun c hc e q => sounds es c hc X W e a q (os (show noOs es = true ∨ _ from l) c hc))
  | .dic ks vs => fun X W e a h l => g_dic a h (sounds vs) (os (show noOs vs = true ∨ _ from l))
  | .lc elt tg ik ia cond own => fun X W e a h l => g_lcE a h (sound elt) (sound cond) (sounds ia) (os (o2 (o2 (show (noO elt && (noO cond && noOs ia)) = true ∨ _ from l)).2).2)
  | .fnv x => fun X W e a h l => g_fnv a h
  | .callk f args => fun X W e a h l => g_callk a h fun c hc e q => sounds args c hc X W e a q (os (show noOs args = true ∨ _ from l) c hc)
  | .callv i args => fun X W e a h l => g_callv a h (AllGood.args fun c hc e q => sounds args c hc X W e a q (os (show noOs args = true ∨ _ from l) c hc))
  | .tupS c1 c2 => fun X W e a h l => g_tupS a h (fun e q => sound c1 X W e a q (o2 (show (noO c1 && noO c2) = true ∨ _ from l)).1) (fun e q => sound c2 X W e a q (o2 (show (noO c1 && noO c2) = true ∨ _ from l)).2)
  | .mk c c1 => fun X W e a h l => g_mk a h (fun e q => sound c1 X W e a q (show noO c1 = true ∨ _ from l))
  | .mkk c f c1 => fun X W e a h l => g_mkk a h (fun e q => sound c1 X W e a q (show noO c1 = true ∨ _ from l))
  | .mk0 c c1 => fun X W e a h l => g_mk0 a h (fun e q => sound c1 X W e a q (show noO c1 = true ∨ _ from l))
  | .isb c1 T => fun X W e a h l => g_isb a h (fun e q => sound c1 X W e a q (show noO c1 = true ∨ _ from l))
  | .isc c1 c => fun X W e a h l => g_isc a h (fun e q => sound c1 X W e a q (show noO c1 = true ∨ _ from l))
  | .att c1 f => fun X W e a h l => g_att a h (fun e q => sound c1 X W e a q (show noO c1 = true ∨ _ from l))
  | .ned c1 c2 => fun X W e a h l => g_ned a h (fun e q => sound c1 X W e a q (o2 (show (noO c1 && noO c2) = true ∨ _ from l)).1) (fun e q => sound c2 X W e a q (o2 (show (noO c1 && noO c2) = true ∨ _ from l)).2)
  | .srs c1 => fun X W e a h l => g_srs a h (fun e q => sound c1 X W e a q (show noO c1 = true ∨ _ from l))
  | .pop i => fun X W e a h l => g_pop a h
  | .outc k nm ls b => fun X W e a h l => g_outc a (l.resolve_left fun z => by cases (show false = true from z)) h fun X' W' e' a' q hn => sound b X' W' e' a' q (.inl hn)
theorem sounds : ∀ cs : List CE, ∀ c ∈ cs, Snd C Φ G c
  | [], c, h => by cases h
  | c0 :: cs, c, h => by
    rcases List.mem_cons.mp h with h | h
    · rw [h]; exact sound c0
    · exact sounds cs c h
end
end
end EK

set_option Elab.async false
set_option linter.all false
set_option maxRecDepth 100000
set_option maxHeartbeats 4000000
namespace EK
open PySem L2 PySem.Spec PyProof.Rows

/-! ### statements -/
/-- expressions that make a new object -/
inductive FE where
  | lst (es : List CE) | rep (es : List CE) (n : CE) | cat (a b : CE) | dnew | dic (ks : List Key) (vs : List CE) | call (f : Str) (args : List CE) | dic1 (k v : CE)
inductive CS where
  | set (tg : Tg) (e : CE)
  | par (is : List Nat) (es : List (CE ⊕ FE))
  | own (i : Nat) (e : FE)
  | app (i : Nat) (e : CE)
  | putL (i : Nat) (k e : CE)
  | putD (i : Nat) (k e : CE)
  | exp (e : CE)
  | ret (e : CE)
  | retF (e : FE)
  | ite (c : CE) (a b : List CS)
  | loop (tg : Tg) (ik : Ik) (ia : List CE) (body : List CS)
  | while (c : CE) (body : List CS)
  | never | pass
  | frz (i : Nat)
  | tryR (x : Str) (body : List CS)
  | raise (c : Str) (e : CE)
inductive SR where
  | next (Γ : Gam) (S : Sto) | ret (d : D) (S : Sto) (fr : Bool) | ex (c : Str) (d : D) (Γ : Gam) (S : Sto) | bad
def R.go (Γ : Gam) : R → (D → Sto → SR) → SR
  | .ok d S, k => k d S
  | .ex c d S, _ => .ex c d Γ S
  | .bad, _ => .bad
def RA.go (Γ : Gam) : RA → (List D → Sto → SR) → SR
  | .ok d S, k => k d S
  | .ex c d S, _ => .ex c d Γ S
  | .bad, _ => .bad
def SR.then : SR → (Gam → Sto → SR) → SR
  | .next Γ S, k => k Γ S
  | .ret d S fr, _ => .ret d S fr
  | .ex c d Γ S, _ => .ex c d Γ S
  | .bad, _ => .bad
def toO : D → Option O
  | .lst ds => some (.lst ds)
  | .dic es => some (.dic es)
  | _ => none
def ofO : O → D
  | .lst ds => .lst ds
  | .dic es => .dic es
  | .tab _ => .opq
def putKD (es : List (Key × D)) (k : Key) (d : D) : List (Key × D) :=
  if (es.any fun kv => decide (kv.1 = k)) = true then es.map (fun kv => if kv.1 = k then (kv.1, d) else kv) else es ++ [(k, d)]
/-- all slots that hold this object of the store hold its data from now on -/
def thaw (k : Nat) (d : D) : Gam → Gam := List.map fun o => match o with
  | some (.loc j) => if j = k then some d else some (.loc j)
  | o => o
def asOwn (Γ : Gam) (S : Sto) (i : Nat) (d : D) : Option (Gam × Sto) := match toO d with
  | some o => some (Γ.set i (some (.loc S.length)), S ++ [o])
  | none => none
def loopN (body : Gam → Sto → SR) (tg : Tg) : List D → Gam → Sto → SR
  | [], Γ, S => .next Γ S
  | x :: xs, Γ, S => match setTg tg x Γ with
    | none => .bad
    | some Γ' => (body Γ' S).then fun Γ2 S2 => loopN body tg xs Γ2 S2
def whileN (cond : Gam → Sto → R) (body : Gam → Sto → SR) : Nat → Gam → Sto → SR
  | 0, _, _ => .bad
  | n + 1, Γ, S => (cond Γ S).go Γ fun d S1 => match d with
    | .bl true => (body Γ S1).then fun Γ2 S2 => whileN cond body n Γ2 S2
    | .bl false => .next Γ S1
    | _ => .bad
section
variable (Φ Φf : Str → Option Fsem) (G : Str → Option D)
@[simp] def evF : FE → Gam → Sto → R
  | .lst es, Γ, S => ev Φ G (.lst es) Γ S
  | .rep es n, Γ, S => (ev Φ G (.lst es) Γ S).bind fun d S1 => (ev Φ G n Γ S1).bind fun e S2 => match d, e with
    | .lst ds, .int k => if in62 k = true ∧ ds.length * k.toNat ≤ szL then .ok (.lst (List.replicate k.toNat ds).flatten) S2 else .bad
    | _, _ => .bad
  | .cat a b, Γ, S => (ev Φ G a Γ S).bind fun d S1 => (ev Φ G b Γ S1).bind fun e S2 => match d, e with
    | .lst xs, .lst ys => if xs.length + ys.length ≤ szL then .ok (.lst (xs ++ ys)) S2 else .bad
    | _, _ => .bad
  | .dnew, _, S => .ok (.dic []) S
  | .dic ks vs, Γ, S => ev Φ G (.dic ks vs) Γ S
  | .dic1 k v, Γ, S => (ev Φ G k Γ S).bind fun a S1 => (ev Φ G v Γ S1).bind fun d S2 => match keyD a with
    | some q => if noLoc d = true then .ok (.dic [(q, d)]) S2 else .bad
    | none => .bad
  | .call f args, Γ, S => match Φf f with
    | some F => (evs Φ G args Γ S).bind F
    | none => .bad
@[simp] def parS : List Nat → List (CE ⊕ FE) → Gam → Gam → Sto → SR
  | [], [], _, Γ', S => .next Γ' S
  | i :: is, .inl c :: es, Γ, Γ', S => (ev Φ G c Γ S).go Γ fun d S1 => parS is es Γ (Γ'.set i (some d)) S1
  | i :: is, .inr c :: es, Γ, Γ', S => (evF Φ Φf G c Γ S).go Γ fun d S1 => match asOwn Γ' S1 i d with
    | some (Γ2, S2) => parS is es Γ Γ2 S2
    | none => .bad
  | _, _, _, _, _ => .bad
variable (fuel n0 : Nat)
mutual
@[simp] def exS : CS → Gam → Sto → SR
  | .set tg e, Γ, S => (ev Φ G e Γ S).go Γ fun d S1 => match setTg tg d Γ with
    | some Γ' => .next Γ' S1
    | none => .bad
  | .par is es, Γ, S => parS Φ Φf G is es Γ Γ S
  | .own i e, Γ, S => (evF Φ Φf G e Γ S).go Γ fun d S1 => match asOwn Γ S1 i d with
    | some (Γ2, S2) => .next Γ2 S2
    | none => .bad
  | .app i e, Γ, S => match Γ[i]? with
    | some (some (.loc k)) => match S[k]? with
      | some (.lst _) => (ev Φ G e Γ S).go Γ fun d S1 => match S1[k]? with
        | some (.lst ds) => if noLoc d = true ∧ ds.length < szL then .next Γ (S1.set k (.lst (ds ++ [d]))) else .bad
        | _ => .bad
      | _ => .bad
    | _ => .bad
  | .putL i j e, Γ, S => (ev Φ G e Γ S).go Γ fun d S1 => match Γ[i]? with
    | some (some (.loc k)) => (ev Φ G j Γ S1).go Γ fun x S2 => match S2[k]?, x with
      | some (.lst ds), .int z => match ixN ds.length z with
        | some m => if noLoc d = true then .next Γ (S2.set k (.lst (ds.set m d))) else .bad
        | none => .bad
      | _, _ => .bad
    | _ => .bad
  | .putD i j e, Γ, S => (ev Φ G e Γ S).go Γ fun d S1 => match Γ[i]? with
    | some (some (.loc k)) => (ev Φ G j Γ S1).go Γ fun x S2 => match S2[k]?, keyD x with
      | some (.dic es), some q => if noLoc d = true ∧ es.length < szL then .next Γ (S2.set k (.dic (putKD es q d))) else .bad
      | _, _ => .bad
    | _ => .bad
  | .exp e, Γ, S => (ev Φ G e Γ S).go Γ fun _ S1 => .next Γ S1
  | .ret e, Γ, S => (ev Φ G e Γ S).go Γ fun d S1 => .ret d S1 false
  | .retF e, Γ, S => (evF Φ Φf G e Γ S).go Γ fun d S1 => .ret d S1 true
  | .ite c a b, Γ, S => (ev Φ G c Γ S).go Γ fun d S1 => match d with
    | .bl true => exSs a Γ S1
    | .bl false => exSs b Γ S1
    | _ => .bad
  | .loop tg ik ia body, Γ, S => (evs Φ G ia Γ S).go Γ fun ds S1 => match itD ik ds with
    | some items => loopN (exSs body) tg items Γ S1
    | none => .bad
  | .while c body, Γ, S => whileN (ev Φ G c) (exSs body) fuel Γ S
  | .never, _, _ => .bad
  | .raise c e, Γ, S => if isFn c (G c) = true ∧ isXc c = true then (ev Φ G e Γ S).go Γ fun d S1 => if noLoc d = true then .ex c d Γ S1 else .bad else .bad
  | .pass, Γ, S => .next Γ S
  | .tryR x body, Γ, S => match G x with
    | some (.fn _) => match exSs body Γ S with
      | .next Γ' S' => .next Γ' S'
      | .ret d S' fr => .ret d S' fr
      | _ => .bad
    | _ => .bad
  | .frz i, Γ, S => match Γ[i]? with
    | some (some (.loc k)) => if k + 1 = S.length ∧ n0 ≤ k then match S[k]? with
      | some o => .next (thaw k (ofO o) Γ) (S.take k)
      | none => .bad
      else .bad
    | _ => .bad
@[simp] def exSs : List CS → Gam → Sto → SR
  | [], Γ, S => .next Γ S
  | c :: cs, Γ, S => (exS c Γ S).then fun Γ' S' => exSs cs Γ' S'
end
end
def stB : Expr → Bool
  | .Starred .. => true
  | _ => false
def nmB (sc : Scope) (line : Nat) : Expr → Option Str
  | .Name id pos => if (sc.names.lookup id == some .local && pos.line == line) = true then some id else none
  | _ => none
def nms (sc : Scope) (ts : List Expr) : List Str := ts.filterMap (nmB sc ((ts.head?.map (·.pos.line)).getD 0))
/-- the names that are stored at once, if they are -/
def swp (ts vs : List Expr) (sc : Scope) : Option (Option (List Str)) :=
  if (!(ts.length == 2 || ts.length == 3) || vs.length != ts.length) = true then some none
  else if vs.any stB = true then some none
  else if ((nms sc ts).length != ts.length || (nms sc ts).eraseDups.length != (nms sc ts).length) = true then some none
    else if vs.all (foldedForSure 8) = true then some none
    else if vs.all (constantsAlone 8) = true then none
    else some (some (nms sc ts))
theorem swp_ok {ts vs : List Expr} {env : Env} {k k' : Nat} {p p' : Pos} {r : Option (List Str)} (hk : env.scope.kind = .function) (h : swp ts vs env.scope = some r) : swappedStores [.Tuple ts k p] (.Tuple vs k' p') env = pure r := by
  have hb : (env.blockKind != .function) = false := by
    unfold Env.blockKind
    rw [hk]; rfl
  unfold swappedStores
  dsimp only
  rw [hb, Bool.or_false]
  show (if (!(ts.length == 2 || ts.length == 3) || vs.length != ts.length) = true then pure none else if vs.any stB = true then pure none else if ((nms env.scope ts).length != ts.length || (nms env.scope ts).eraseDups.length != (nms env.scope ts).length) = true then pure none
    else if vs.all (foldedForSure 8) = true then pure none else if vs.all (constantsAlone 8) = true then (do let _ ← (unsupported "assign.tuple-of-constant-expressions:order-of-the-stores" : Sem Unit); pure (some (nms env.scope ts))) else pure (some (nms env.scope ts))) = (pure r : Sem (Option (List Str)))
  unfold swp at h
  split at h
  · rename_i h1; cases h; rw [if_pos h1]
  · rename_i h1
    rw [if_neg h1]
    split at h
    · rename_i h2; cases h; rw [if_pos h2]
    · rename_i h2
      rw [if_neg h2]
      split at h
      · rename_i h3; cases h; rw [if_pos h3]
      · rename_i h3
        rw [if_neg h3]
        split at h
        · rename_i h4; cases h; rw [if_pos h4]
        · rename_i h4
          rw [if_neg h4]
          split at h
          · cases h
          · rename_i h5; cases h; rw [if_neg h5]
end EK

set_option Elab.async false
set_option linter.all false
set_option maxRecDepth 100000
set_option maxHeartbeats 4000000
namespace EK
open PySem L2 PySem.Spec PyProof.Rows
/-! ### the check of statements -/
def noComp : Expr → Bool
  | .ListComp .. => false
  | .SetComp .. => false
  | .DictComp .. => false
  | _ => true
/-- the value of a comprehension goes to this name at once -/
def swC (v t : Expr) (sc : Scope) : Bool := match v, t with
  | .ListComp _ _ s pos, .Name t' pos' => (sc.names.lookup t' == some .local) && pos'.line == pos.line && !(s.names.any fun (n, k) => n == t' && (k == .local || k == .cell))
  | _, _ => false
def setB : Expr → Bool
  | .SetComp .. => false
  | .DictComp .. => false
  | _ => true
section
variable (N : List Str)
def chkF (sc : Scope) : FE → Expr → Bool
  | .lst es, e => match e with
    | .List xs _ => chks N sc es xs
    | _ => false
  | .rep es n, e => match e with
    | .BinOp (.List xs _) .Mult y _ => chks N sc es xs && chk N sc n y
    | _ => false
  | .cat a b, e => match e with
    | .BinOp x .Add y _ => chk N sc a x && chk N sc b y
    | _ => false
  | .dnew, e => match e with
    | .Dict [] [] _ => true
    | _ => false
  | .dic ks vs, e => !ks.isEmpty && chk N sc (.dic ks vs) e
  | .dic1 k v, e => match e with
    | .Dict [some x] [y] _ => chk N sc k x && chk N sc v y
    | _ => false
  | .call f args, e => match e with
    | .Call (.Name x _) (a :: as) [] _ => decide (x = f) && glB sc x && chks N sc args (a :: as)
    | _ => false
def chkEs (sc : Scope) : List (CE ⊕ FE) → List Expr → Bool
  | [], [] => true
  | .inl c :: cs, e :: es => plainB e && chk N sc c e && chkEs sc cs es
  | .inr c :: cs, e :: es => plainB e && chkF N sc c e && chkEs sc cs es
  | _, _ => false
def parB (sc : Scope) : List Nat → List Expr → Bool
  | [], [] => true
  | i :: is, .Name x _ :: es => decide (N[i]? = some x) && decide (sc.names.lookup x = some .local) && parB sc is es
  | _, _ => false
mutual
def chkS (sc : Scope) : CS → Stmt → Bool
  | .set tg e, s => match s with
    | .Assign [t] v _ => setB v && tgB true sc N tg t && chk N sc e v && (match t with
      | .Tuple ts _ _ => (match v with | .Tuple vs _ _ => decide (swp ts vs sc = some none) | _ => true)
      | _ => true) && (!swC v t sc || (match e, tg with | .lc .., .one _ => true | _, _ => false))
    | _ => false
  | .par is es, s => match s with
    | .Assign [.Tuple ts _ _] (.Tuple vs _ _) _ => (match swp ts vs sc with | some (some _) => true | _ => false) && decide (is.Nodup) && decide (is.length = 2 ∨ is.length = 3) && parB N sc is ts && chkEs N sc es vs
    | _ => false
  | .own i e, s => match s with
    | .Assign [.Name x _] v _ => noComp v && decide (N[i]? = some x) && okLoc true sc x && chkF N sc e v
    | _ => false
  | .app i e, s => match s with
    | .Expr (.Call (.Attribute (.Name x _) n ap) [y] [] cp) _ => decide (n = ("append" : Str)) && varB sc N i x && plainB y && (ap.endLine == cp.line) && chk N sc e y
    | _ => false
  | .putL i k e, s => match s with
    | .Assign [.Subscript (.Name x _) j _] v _ => noComp v && varB sc N i x && plainB j && chk N sc k j && chk N sc e v
    | _ => false
  | .putD i k e, s => match s with
    | .Assign [.Subscript (.Name x _) j _] v _ => noComp v && varB sc N i x && plainB j && chk N sc k j && chk N sc e v
    | _ => false
  | .exp e, s => match s with
    | .Expr v _ => noComp v && chk N sc e v
    | _ => false
  | .ret e, s => match s with
    | .Return (some v) _ => chk N sc e v
    | _ => false
  | .retF e, s => match s with
    | .Return (some v) _ => chkF N sc e v
    | _ => false
  | .ite c a b, s => match s with
    | .If t as bs _ => notIf t && chk N sc c t && chkSs sc a as && chkSs sc b bs
    | _ => false
  | .loop tg ik ia body, s => match s with
    | .For t it b [] _ => plainB it && tgB true sc N tg t && chkI N sc ik ia it t && chkSs sc body b
    | _ => false
  | .while c body, s => match s with
    | .While t b [] _ => notIf t && chk N sc c t && chkSs sc body b
    | _ => false
  | .never, _ => true
  | .raise c a, s => match s with
    | .Raise (some (.Call (.Name x _) [y] [] _)) none _ => decide (x = c) && glB sc x && plainB y && chk N sc a y
    | _ => false
  | .pass, s => match s with
    | .Pass _ => true
    | _ => false
  | .tryR x body, s => match s with
    | .Try b [.ExceptHandler (some (.Name y _)) none (_ :: _) _] [] [] _ => decide (y = x) && glB sc y && chkSs sc body b
    | _ => false
  | .frz _, _ => false
def chkSs (sc : Scope) : List CS → List Stmt → Bool
  | [], ss => ss.isEmpty
  | .frz _ :: cs, ss => chkSs sc cs ss
  | c :: cs, ss => match ss with
    | s :: ss => chkS sc c s && chkSs sc cs ss
    | [] => false
end
end
/-! ### readings of statements -/
structure Nxs (n0 : Nat) (H : Hp) (ρ : Rg) (H' : Hp) (ρ' : Rg) : Prop where
  nx : Nx H ρ H' ρ'
  sub : Sub ρ ρ' H
  ex : ρ'.ex = ρ.ex
  pre : ρ'.st.take n0 = ρ.st.take n0
  al : ∀ a, H a ≠ none → H' a ≠ none
theorem Nxs.refl (n0 : Nat) (H : Hp) (ρ : Rg) : Nxs n0 H ρ H ρ := ⟨Nx.refl H ρ, Sub.rfl, rfl, rfl, fun _ h => h⟩
theorem Nxs.trans {n0 : Nat} {H H' H'' : Hp} {ρ ρ' ρ'' : Rg} (a : Nxs n0 H ρ H' ρ') (b : Nxs n0 H' ρ' H'' ρ'') : Nxs n0 H ρ H'' ρ'' := by
  refine ⟨a.nx.trans b.nx a.sub, fun x hx => ?_, b.ex.trans a.ex, b.pre.trans a.pre, fun x h => b.al x (a.al x h)⟩
  rcases b.sub x hx with q | q
  · exact a.sub x q
  · by_cases h : x ∈ ρ.st
    · exact .inl h
    · right
      cases e : H x with
      | none => rfl
      | some o => rw [a.nx.kp x o e h] at q; cases q
theorem Nx.s {n0 : Nat} {C : Ct} {S : Sto} {H H' : Hp} {ρ : Rg} (n : Nx H ρ H' ρ) (s : StOk C H' ρ S) : Nxs n0 H ρ H' ρ := ⟨n, Sub.rfl, rfl, rfl, fun a h => by
  by_cases hp : a ∈ ρ.st
  · exact s.there (Rg.of_st hp)
  · cases e : H a with
    | none => exact absurd e h
    | some o => rw [n.kp a o e hp]; exact fun z => by cases z⟩
/-- v is a new object of which no one else knows -/
def New (C : Ct) (H H' : Hp) (ρ : Rg) (S : Sto) (v : V) (d : D) : Prop := ∃ p o, v = .ref p ∧ toO d = some o ∧ H p = none ∧ StOk C H' (ρ.keep p) S ∧ OAt C H' (ρ.keep p) p o
theorem fresh_of {C : Ct} {H H' : Hp} {ρ : Rg} {S : Sto} {p : Addr} (n : Nx H ρ H' ρ) (s : StOk C H' ρ S) (h : H' p = none) : H p = none := by
  cases e : H p with
  | none => rfl
  | some o =>
    by_cases hp : p ∈ ρ.st
    · exact absurd h (s.there (Rg.of_st hp))
    · rw [n.kp p o e hp] at h; cases h
theorem New.back {C : Ct} {H H' H'' : Hp} {ρ ρ' : Rg} {S S' : Sto} {v : V} {d : D} (n : Nx H ρ H' ρ) (s : StOk C H' ρ S) (h : New C H' H'' ρ' S' v d) : New C H H'' ρ' S' v d := by
  obtain ⟨p, o, e1, e2, e3, e4, e5⟩ := h
  exact ⟨p, o, e1, e2, fresh_of n s e3, e4, e5⟩
def FinS (C : Ct) (W : WX) (n0 : Nat) (En : Ends) (ρ : Rg) (H : Hp) : SR → Prop
  | .next Γ' S' => ∀ σ' H' ρ', Nxs n0 H ρ H' ρ' → StOk C H' ρ' S' → RepG C H' ρ' σ' Γ' → En.nx σ' H'
  | .ret d S' fr => ∀ v H' ρ', Nxs n0 H ρ H' ρ' → StOk C H' ρ' S' → Rep C H' ρ' v d → (fr = true → New C H H' ρ' S' v d) → En.rt v H'
  | .ex c d Γ' S' => ∀ (Ca dd : Addr) (v : V) (σ' : L2.St) (H' : Hp) (ρ' : Rg), C.mg c = some (.ref Ca) → Nxs n0 H ρ H' ρ' → StOk C H' ρ' S' → RepG C H' ρ' σ' Γ' → H' dd = some (.xd [(C.fld c, v)]) → dd ∉ ρ' → RepD C H' ρ' v d → W (.ref Ca) (some dd) σ' H'
  | .bad => False
def tDS (C : Ct) (W : WX) (n0 : Nat) (f : Gam → Sto → SR) : TS := fun En σ H => ∃ ρ Γ S, StOk C H ρ S ∧ RepG C H ρ σ Γ ∧ FinS C W n0 En ρ H (f Γ S)
section
variable {C : Ct} {W : WX} {H H' : Hp} {ρ ρ' : Rg} {σ : L2.St} {Γ : Gam} {S S' : Sto} {n0 : Nat} {En : Ends}
theorem Nxs.fresh {H2 : Hp} {ρ2 : Rg} {S2 : Sto} {v : V} {d : D} (n : Nxs n0 H ρ H' ρ') (h : New C H' H2 ρ2 S2 v d) : New C H H2 ρ2 S2 v d := by
  obtain ⟨p, o, e1, e2, e3, e4, e5⟩ := h
  refine ⟨p, o, e1, e2, ?_, e4, e5⟩
  cases z : H p with
  | none => rfl
  | some o => exact absurd e3 (n.al p (by rw [z]; exact fun w => by cases w))
theorem FinS.nxs (N : Nxs n0 H ρ H' ρ') : ∀ {r : SR}, FinS C W n0 En ρ H r → FinS C W n0 En ρ' H' r
  | .next _ _, h => fun σ' H2 ρ2 n s r => h σ' H2 ρ2 (N.trans n) s r
  | .ret _ _ _, h => fun v H2 ρ2 n s r fr => h v H2 ρ2 (N.trans n) s r fun z => N.fresh (fr z)
  | .ex _ _ _ _, h => fun Ca dd v σ' H2 ρ2 e n s rg q nd r => h Ca dd v σ' H2 ρ2 e (N.trans n) s rg q nd r
  | .bad, h => h
theorem FinS.nx (N : Nx H ρ H' ρ) (s : StOk C H' ρ S) {r : SR} (h : FinS C W n0 En ρ H r) : FinS C W n0 En ρ H' r := h.nxs (N.s s)
theorem tDE_go {f : Gam → Sto → R} {k : D → Sto → SR} {Q' : VK} (st : StOk C H ρ S) (rg : RepG C H ρ σ Γ) (h : FinS C W n0 En ρ H ((f Γ S).go Γ k))
    (hk : ∀ d S' v H', Nx H ρ H' ρ → StOk C H' ρ S' → Rep C H' ρ v d → RepG C H' ρ σ Γ → FinS C W n0 En ρ H' (k d S') → Q' v H') : tDE C W f σ H Q' := by
  refine ⟨ρ, Γ, S, st, rg, ?_⟩
  cases e : f Γ S with
  | ok d S' => rw [e] at h; exact fun v H' n s r => hk d S' v H' n s r (rg.nx0 n) (FinS.nx n s h)
  | ex c d S' => rw [e] at h; exact fun Ca dd v H' m n s q nd r => h Ca dd v σ H' ρ m (n.s s) s (rg.nx0 n) q nd r
  | bad => rw [e] at h; exact h
theorem tDT_go {f : Gam → Sto → R} {k : D → Sto → SR} {Q' : Bool → Hp → Prop} (st : StOk C H ρ S) (rg : RepG C H ρ σ Γ) (h : FinS C W n0 En ρ H ((f Γ S).go Γ k)) (hb : ∀ d S', k d S' ≠ .bad → ∃ b, d = .bl b)
    (hk : ∀ b S' H', Nx H ρ H' ρ → StOk C H' ρ S' → RepG C H' ρ σ Γ → FinS C W n0 En ρ H' (k (.bl b) S') → Q' b H') : tDT C W f σ H Q' := by
  refine ⟨ρ, Γ, S, st, rg, ?_⟩
  cases e : f Γ S with
  | ok d S' =>
    rw [e] at h
    obtain ⟨b, rfl⟩ := hb d S' (fun z => by have h : FinS C W n0 En ρ H (k d S') := h; rw [z] at h; exact h)
    exact ⟨b, rfl, fun H' n s => hk b S' H' n s (rg.nx0 n) (FinS.nx n s h)⟩
  | ex c d S' => rw [e] at h; exact fun Ca dd v H' m n s q nd r => h Ca dd v σ H' ρ m (n.s s) s (rg.nx0 n) q nd r
  | bad => rw [e] at h; exact h
end
end EK

set_option Elab.async false
set_option linter.all false
set_option maxRecDepth 100000
set_option maxHeartbeats 4000000
namespace EK
open PySem L2 PySem.Spec PyProof.Rows
/-- a def that hands back a new object -/
def FinN (C : Ct) (E : XK) (ρ : Rg) (H : Hp) (Q : VK) : R → Prop
  | .ok d S' => ∀ v H', Nx H ρ H' ρ → StOk C H' ρ S' → RepD C H' ρ v d → New C H H' ρ S' v d → Q v H'
  | .ex c d S' => ∀ (Ca dd : Addr) (v : V) (H' : Hp), C.mg c = some (.ref Ca) → Nx H ρ H' ρ → StOk C H' ρ S' → H' dd = some (.xd [(C.fld c, v)]) → dd ∉ ρ → RepD C H' ρ v d → E (.ref Ca) (some dd) H'
  | .bad => False
def spF (C : Ct) (F : Fsem) : Sp := fun vs H Q E => ∃ ds ρ S, StOk C H ρ S ∧ Paired (Rep C H ρ) vs ds ∧ FinN C E ρ H Q (F ds S)
structure AtS (X : Cx) (C : Ct) (Φ Φf : Str → Option Fsem) (G : Str → Option D) (W : WX) : Prop where
  at_ : At X C Φ G W
  lam : LamF X C Φ
  fnsF : ∀ x F, Φf x = some F → ∃ (f : Addr) (fd : FuncData) (ps : List Str) (k : Nat), X.mg x = some (.ref f) ∧ PySem.W.keepIn X.K (.ref f) = true ∧ Binds X.K fd ps [] ∧
    FnG X.prog X.w X.K X.mg X.base (L2.CX X.prog X.w) k f fd ps (spF C F) ∧ Rm k X.A
  fn : ∀ x, X.fn x = true
  kind : X.env.scope.kind = .function
  po : PassesOwn (model X.prog X.w) X.A X.env X.xe
  hs : X.stack = X.env :: X.outer
  hf : X.env.frame = some X.env.locals
def FinF (C : Ct) (W : WX) (ρ : Rg) (σ : L2.St) (H : Hp) (Q : VK) : R → Prop := FinN C (fun c d H => W c d σ H) ρ H Q
def tDF (C : Ct) (W : WX) (f : Gam → Sto → R) : TE := fun σ H Q => ∃ ρ Γ S, StOk C H ρ S ∧ RepG C H ρ σ Γ ∧ FinF C W ρ σ H Q (f Γ S)
section
variable {X : Cx} {C : Ct} {Φ Φf : Str → Option Fsem} {G : Str → Option D} {W : WX} {e : Expr} {H H' : Hp} {ρ ρ' : Rg} {σ : L2.St} {Γ : Gam} {S S' : Sto} {n0 : Nat} {En : Ends}
theorem tDF_bind {f : Gam → Sto → R} {k : D → Sto → R} {Q Q' : VK} (st : StOk C H ρ S) (rg : RepG C H ρ σ Γ) (h : FinF C W ρ σ H Q ((f Γ S).bind k))
    (hk : ∀ d S' v H', Nx H ρ H' ρ → StOk C H' ρ S' → Rep C H' ρ v d → RepG C H' ρ σ Γ → FinF C W ρ σ H Q (k d S') → Q' v H') : tDE C W f σ H Q' := by
  refine ⟨ρ, Γ, S, st, rg, ?_⟩
  cases e : f Γ S with
  | ok d S' => rw [e] at h; exact fun v H' n s r => hk d S' v H' n s r (rg.nx0 n) h
  | ex c d S' => rw [e] at h; exact h
  | bad => rw [e] at h; exact h
theorem tDFA_bind {f : Gam → Sto → RA} {k : List D → Sto → R} {Q : VK} {Q' : List V → Hp → Prop} (st : StOk C H ρ S) (rg : RepG C H ρ σ Γ) (h : FinF C W ρ σ H Q ((f Γ S).bind k))
    (hk : ∀ ds S' vs H', Nx H ρ H' ρ → StOk C H' ρ S' → Paired (Rep C H' ρ) vs ds → RepG C H' ρ σ Γ → FinF C W ρ σ H Q (k ds S') → Q' vs H') : tDA C W f σ H Q' := by
  refine ⟨ρ, Γ, S, st, rg, ?_⟩
  cases e : f Γ S with
  | ok d S' => rw [e] at h; exact fun v H' n s r => hk d S' v H' n s r (rg.nx0 n) h
  | ex c d S' => rw [e] at h; exact h
  | bad => rw [e] at h; exact h
theorem FinF.nx {Q : VK} (N : Nx H ρ H' ρ) (al : ∀ p, H' p = none → H p = none) : ∀ {r : R}, FinF C W ρ σ H Q r → FinF C W ρ σ H' Q r
  | .ok _ _, h => fun v H2 n s r ⟨p, o, e1, e2, e3, e4⟩ => h v H2 (N.trans n) s r ⟨p, o, e1, e2, al p e3, e4⟩
  | .ex _ _ _, h => fun Ca dd v H2 e n s q nd r => h Ca dd v H2 e (N.trans n) s q nd r
  | .bad, h => h
/-- a new list from the elements -/
theorem newL {Q : VK} {xs : List V} {ds : List D} {S1 : Sto} {H1 : Hp} (n : Nx H ρ H1 ρ) (s : StOk C H1 ρ S1) (ra : RepA C H1 ρ xs ds) (q : FinF C W ρ σ H Q (.ok (.lst ds) S1)) {p : Addr} (hp : H1 p = none) : Q (.ref p) (upd H1 p (.lst xs)) :=
  q (.ref p) _ (n.trans (Nx.new hp)) (s.new hp) (.lst ⟨upd_same, s.free hp⟩ (ra.nx (Nx.new hp))) ⟨p, _, rfl, rfl, fresh_of n s hp, s.keep hp, _, upd_same, ra.nx (Nx.keep hp)⟩
theorem g_F (a : AtS X C Φ Φf G W) {fe : FE} (h : chkF X.N X.env.scope fe e = true) : PE X e (tDF C W (evF Φ Φf G fe)) := by
  cases fe with
  | lst es =>
    unfold chkF at h
    dsimp only at h
    split at h
    · rename_i xs p
      refine (pe_lst (AllGood.args (fun c hc e q => sounds es c hc X W e a.at_ q (.inr a.lam)) xs h)).mono fun σ H Q q => ?_
      obtain ⟨ρ, Γ, S, st, rg, q⟩ := q
      unfold evF at q
      dsimp only at q
      rw [ev] at q
      refine tDFA_bind st rg q fun ds S1 vs H1 n1 s1 r1 rg1 q1 => ?_
      split at q1
      · rename_i hc
        have ra := paired_d r1 hc.1
        exact ⟨by rw [ra.length, szL_eq]; exact hc.2, fun p hp => newL n1 s1 ra q1 hp⟩
      · exact q1.elim
    · cases h
  | rep es n =>
    unfold chkF at h
    dsimp only at h
    split at h
    · rename_i xs p y p2
      obtain ⟨h1, h2⟩ := and2 h
      have hl : Good X C W (.List xs p) (ev Φ G (.lst es)) := sound (.lst es) X W _ a.at_ (by rw [chk.eq_def]; exact h1) (.inr a.lam)
      refine (pe_op op_rep hl.1 (sound n X W y a.at_ h2 (.inr a.lam)).1).mono fun σ H Q q => ?_
      obtain ⟨ρ, Γ, S, st, rg, q⟩ := q
      unfold evF at q
      dsimp only at q
      refine tDF_bind st rg q fun d S1 x H1 n1 s1 r1 rg1 q1 => ?_
      refine tDF_bind (H := H1) s1 rg1 (FinF.nx n1 (fun p f => fresh_of n1 s1 f) q1) fun e S2 y H2 n2 s2 r2 rg2 q2 => ?_
      split at q2
      · split at q2
        · rename_i hc
          obtain ⟨b, ys, rfl, hb, ra⟩ := (r1.nx0 n2).lstA
          obtain rfl := r2.int
          obtain ⟨i1, i2⟩ := in62_iff.mp hc.1
          exact ⟨_, _, _, rfl, rfl, hb.1, by omega, by omega, by rw [ra.length, szL_eq]; exact hc.2, fun p hp => newL n2 s2 (ra.rep _) q2 hp⟩
        · exact q2.elim
      · exact q2.elim
    · cases h
  | cat c1 c2 =>
    unfold chkF at h
    dsimp only at h
    split at h
    · rename_i x y p2
      obtain ⟨h1, h2⟩ := and2 h
      refine (pe_op op_cat (sound c1 X W x a.at_ h1 (.inr a.lam)).1 (sound c2 X W y a.at_ h2 (.inr a.lam)).1).mono fun σ H Q q => ?_
      obtain ⟨ρ, Γ, S, st, rg, q⟩ := q
      unfold evF at q
      dsimp only at q
      refine tDF_bind st rg q fun d S1 x H1 n1 s1 r1 rg1 q1 => ?_
      refine tDF_bind (H := H1) s1 rg1 (FinF.nx n1 (fun p f => fresh_of n1 s1 f) q1) fun e S2 y H2 n2 s2 r2 rg2 q2 => ?_
      split at q2
      · split at q2
        · rename_i hc
          obtain ⟨b, ys, rfl, hb, ra⟩ := (r1.nx0 n2).lstA
          obtain ⟨c, zs, rfl, hc2, rb⟩ := r2.lstA
          exact ⟨_, _, _, _, rfl, rfl, hb.1, hc2.1, by rw [ra.length, rb.length, szL_eq]; exact hc, fun p hp => newL n2 s2 (ra.append rb) q2 hp⟩
        · exact q2.elim
      · exact q2.elim
    · cases h
  | dnew =>
    unfold chkF at h
    dsimp only at h
    split at h
    · refine pe_dnewK.mono fun σ H Q q => ?_
      obtain ⟨ρ, Γ, S, st, rg, q⟩ := q
      intro p hp
      exact q (.ref p) _ (Nx.new hp) (st.new hp) (.dic upd_same (st.free hp) rfl .nil) ⟨p, _, rfl, rfl, hp, st.keep hp, _, upd_same, rfl, .nil⟩
    · cases h
  | dic1 c1 c2 =>
    unfold chkF at h
    dsimp only at h
    split at h
    · rename_i x y p
      obtain ⟨h1, h2⟩ := and2 h
      refine (pe_dispP (pps_cons (sound c1 X W x a.at_ h1 (.inr a.lam)).1 (sound c2 X W y a.at_ h2 (.inr a.lam)).1 pps_nil) rfl rfl (fun z => by cases z) (by show 1 ≤ 15; decide)).mono fun σ H Q q => ?_
      obtain ⟨ρ, Γ, S, st, rg, q⟩ := q
      unfold evF at q
      dsimp only at q
      refine tDF_bind st rg q fun d S1 v H1 n1 s1 r1 rg1 q1 => ?_
      refine tDF_bind (H := H1) s1 rg1 (FinF.nx n1 (fun p f => fresh_of n1 s1 f) q1) fun e S2 w H2 n2 s2 r2 rg2 q2 => ?_
      cases ek : keyD d with
      | none => rw [ek] at q2; exact q2.elim
      | some k =>
        rw [ek] at q2
        dsimp only at q2
        split at q2
        · rename_i hc
          have hv : v = kV k := ((r1.nx0 n2).vw s2).key (by
            have : vw S2 d = d := by
              cases d with
              | loc m => cases ek
              | _ => rfl
            rw [this]; exact ek)
          refine ⟨[(k, w)], by rw [hv]; rfl, by show 1 ≤ 15; decide, fun p hp => ?_⟩
          have rw1 := r2.d hc
          have m : mergeK [] [(k, w)] = [(k, w)] := rfl
          rw [m]
          exact q2 (.ref p) _ (n2.trans (Nx.new hp)) (s2.new hp) (.dic upd_same (s2.free hp) rfl (.cons (rw1.nx (Nx.new hp)) .nil)) ⟨p, _, rfl, rfl, fresh_of n2 s2 hp, s2.keep hp, _, upd_same, rfl, .cons (rw1.nx (Nx.keep hp)) .nil⟩
        · exact q2.elim
    · cases h
  | dic ks vs =>
    unfold chkF at h
    dsimp only at h
    obtain ⟨h0, h⟩ := and2 h
    rw [chk.eq_def] at h
    dsimp only at h
    split at h
    · rw [(and2 h).1] at h0
      cases h0
    · rename_i keys vals p _ _
      obtain ⟨h, h3⟩ := and2 h
      obtain ⟨h, h2⟩ := and2 h
      obtain ⟨h1, hl⟩ := and2 h
      rw [decide_eq_true_iff] at h1 hl
      have hcl := chks_len h3
      obtain ⟨i1, i2, i3⟩ := pps_of a.at_ (p := p) h2 h3 hl.1 (sounds vs) (fun _ _ => .inr a.lam)
      refine (pe_dispP i1 i2 hl.1 (fun z => h1 (by rw [z]; rfl)) hl.2).mono fun σ H Q q => ?_
      obtain ⟨ρ, Γ, S, st, rg, q⟩ := q
      unfold evF at q
      dsimp only at q
      rw [ev] at q
      have key : FinA C W ρ σ H (fun ws H2 => ∀ p, H2 p = none → ws.length = ks.length → Q (.ref p) (upd H2 p (.dK (mergeK [] (ks.zip ws))))) (evs Φ G vs Γ S) := by
        cases e1 : evs Φ G vs Γ S with
        | bad => rw [e1] at q; exact q
        | ex c d S' => rw [e1] at q; exact q
        | ok ds S1 =>
          rw [e1] at q
          have q : FinF C W ρ σ H Q (if ds.all noLoc = true ∧ ds.length = ks.length ∧ ks.length ≤ 15 ∧ ks.Nodup then .ok (.dic (ks.zip ds)) S1 else .bad) := q
          split at q
          · rename_i hc
            intro ws H2 n2 s2 r2 p hp hw
            have ra := paired_d r2 hc.1
            obtain ⟨z1, z2⟩ := zip_fst ks ws hw
            obtain ⟨z3, z4⟩ := zip_fst ks ds hc.2.1
            rw [merge_nodup _ _ (by rw [List.nil_append, z1]; exact hc.2.2.2), List.nil_append]
            refine q (.ref p) _ (n2.trans (Nx.new hp)) (s2.new hp) (.dic upd_same (s2.free hp) (by rw [z1, z3]) (by rw [z2, z4]; exact ra.nx (Nx.new hp))) ⟨p, _, rfl, rfl, fresh_of n2 s2 hp, s2.keep hp, _, upd_same, by rw [z1, z3], by rw [z2, z4]; exact ra.nx (Nx.keep hp)⟩
          · exact q.elim
      refine pairs_imp.tPairs_mono (pairs_imp (ks := ks) (cs := vs) (by omega) st rg key) fun ps H2 ⟨ws, w1, w2, w3⟩ => ⟨ks.zip ws, w2, ?_, fun p hp => w3 p hp w1⟩
      rw [List.length_zip]; omega
    · cases h
  | call f args =>
    unfold chkF at h
    dsimp only at h
    split at h
    · rename_i x p y ys q0
      obtain ⟨h, h3⟩ := and2 h
      obtain ⟨h1, h2⟩ := and2 h
      rw [decide_eq_true_iff] at h1
      subst h1
      obtain ⟨g1, g2, g3⟩ := gl_of h2
      cases hF : Φf x with
      | none =>
        refine ⟨fun pins s σ H Q I q => ?_⟩
        obtain ⟨ρ, Γ, S, st, rg, q⟩ := q
        unfold evF at q
        dsimp only at q
        rw [hF] at q
        exact q.elim
      | some F =>
        obtain ⟨fa, fd, ps, k, hm, hk, hb, hf, hr⟩ := a.fnsF x F hF
        obtain ⟨e1, e2⟩ := args_facts (env := X.env) (pos := q0) h3
        refine (pe_callG (p := p) hf hr g1 hm hk hb (fun σ => passAt a.at_.tk σ) (AllGood.args (fun c hc e q => sounds args c hc X W e a.at_ q (.inr a.lam)) _ h3) g2 e1 e2).mono fun σ H Q q => ?_
        obtain ⟨ρ, Γ, S, st, rg, q⟩ := q
        unfold evF at q
        dsimp only at q
        rw [hF] at q
        refine tDFA_bind st rg q fun ds S1 vs H1 n1 s1 r1 rg1 q1 => ?_
        refine ⟨ds, ρ, S1, s1, r1, ?_⟩
        exact FinF.nx (σ := σ) n1 (fun p f => fresh_of n1 s1 f) q1
    · cases h
end
end EK

set_option Elab.async false
set_option linter.all false
set_option maxRecDepth 100000
set_option maxHeartbeats 4000000
namespace EK
open PySem L2 PySem.Spec PyProof.Rows
theorem _root_.L2.PS.mono {X : Cx} {s : Stmt} {t t' : TS} (h : PS X s t) (i : ∀ En σ H, t' En σ H → t En σ H) : PS X s t' := ⟨fun pins s σ H En I q => h.run pins s σ H En I (i En σ H q)⟩
theorem _root_.L2.PSs.mono {X : Cx} {s : List Stmt} {t t' : TS} (h : PSs X s t) (i : ∀ En σ H, t' En σ H → t En σ H) : PSs X s t' := ⟨fun pins s σ H En I q => h.run pins s σ H En I (i En σ H q)⟩
section
variable {X : Cx} {C : Ct} {Φ Φf : Str → Option Fsem} {G : Str → Option D} {W : WX} {s : Stmt} {H H' : Hp} {ρ ρ' : Rg} {σ : L2.St} {Γ : Gam} {S S' : Sto} {n0 fuel : Nat} {En : Ends}
theorem swaps_no {v : Expr} {t : Option Expr} {l : Nat} {env : Env} (h : noComp v = true) : swapsWith v t l env = pure false := by
  cases v <;> first | rfl | cases h
theorem swaps_no' {v t : Expr} {l : Nat} {env : Env} (hk : env.scope.kind = .function) (h : setB v = true) (h2 : swC v t env.scope = false) : swapsWith v (some t) l env = pure false := by
  cases v with
  | ListComp el gs sc p =>
    cases t with
    | Name t' p' =>
      unfold swapsWith
      dsimp only
      have hb : (env.blockKind == .function) = true := by unfold Env.blockKind; rw [hk]; rfl
      have h2 : ((env.scope.names.lookup t' == some .local) && p'.line == p.line && !(sc.names.any fun (n, k) => n == t' && (k == .local || k == .cell))) = false := h2
      show (pure ((env.blockKind == .function) && (env.scope.names.lookup t' == some .local) && p'.line == p.line && !(sc.names.any fun (n, k) => n == t' && (k == .local || k == .cell))) : Sem Bool) = pure false
      rw [hb, Bool.true_and, h2]
    | _ => rfl
  | _ => first | rfl | cases h
/-- x = e, a, b = e -/
theorem s_set (a : AtS X C Φ Φf G W) {tg : Tg} {e : CE} (h : chkS X.N X.env.scope (.set tg e) s = true) : PS X s (tDS C W n0 (exS Φ Φf G fuel n0 (.set tg e))) := by
  rw [chkS.eq_def] at h
  dsimp only at h
  split at h
  · rename_i t v p
    obtain ⟨h, h5⟩ := and2 h
    obtain ⟨h, h4⟩ := and2 h
    obtain ⟨h, h3⟩ := and2 h
    obtain ⟨h1, h2⟩ := and2 h
    have imp : ∀ En σ H, tDS C W n0 (exS Φ Φf G fuel n0 (.set tg e)) En σ H → tAsg (tDE C W (ev Φ G e)) (gT C.K tg) En σ H := fun En σ H q => by
      obtain ⟨ρ, Γ, S, st, rg, q⟩ := q
      rw [exS] at q
      refine tDE_go st rg q fun d S1 x H1 n1 s1 r1 rg1 q1 => ?_
      cases hs : setTg tg d Γ with
      | none => rw [hs] at q1; exact q1.elim
      | some Γ' =>
        rw [hs] at q1
        exact gT_ok rg1 r1 hs fun σ' rg' _ => q1 σ' H1 ρ (Nxs.refl _ _ _) s1 rg'
    have hg : PG X t (gT C.K tg) := tg_ok a.at_.hK a.at_.calm a.at_.nd (fun _ => a.fn) h2
    by_cases hsw : swC v t X.env.scope = true
    · rw [hsw] at h5
      -- a comprehension that goes to its name at once
      match e, tg, h5, h3, h2, imp, hg with
      | .lc elt tg' ik ia cond own, .one i, _, h3, h2, imp, hg =>
        obtain ⟨el, tgt, iter, ifs, scope, p', wi, tt, te, rfl, k1, hpi, hb, hg', ht, he, imp'⟩ := g_lc a.at_ h3 (sound elt) (sound cond) (sounds ia) (fun _ _ => .inr a.lam)
        cases t with
        | Name y py =>
          have hsw : ((X.env.scope.names.lookup y == some .local) && py.line == p'.line && !(scope.names.any fun (n, k) => n == y && (k == .local || k == .cell))) = true := hsw
          obtain ⟨w1, w3⟩ := and2 hsw
          obtain ⟨w1, w2⟩ := and2 w1
          have hy : X.env.scope.names.lookup y = some .local := by simpa using w1
          have hi : X.N[i]? = some y := by
            have h2 : (decide (X.N[i]? = some y) && okLoc true X.env.scope y) = true := h2
            exact of_decide_eq_true (and2 h2).1
          refine (ps_setLc (pos := p') (spos := p) a.at_.calm a.at_.nd hi hy (sw_true a.kind hy w2 (by simpa using w3)) hpi hb hg' ht he (folded_of k1)).mono fun En σ H q => ?_
          have z := imp En σ H q
          exact imp' σ H _ z
        | _ => cases hsw
    · have hsw : swC v t X.env.scope = false := by simpa using hsw
      refine (ps_asg (sound e X W v a.at_ h3 (.inr a.lam)).1 hg (swaps_no' a.kind h1 hsw) ?_ ?_).mono imp
      · cases t with
        | Tuple ts kt pt =>
          cases v with
          | Tuple vs kv pv =>
            dsimp only at h4
            rw [decide_eq_true_iff] at h4
            exact swp_ok a.kind h4
          | _ => rfl
        | _ =>
          first
          | rfl
          | (cases tg <;> cases h2)
      · cases t <;> first | rfl | (cases tg <;> cases h2)
  · cases h
end
end EK

set_option Elab.async false
set_option linter.all false
set_option maxRecDepth 100000
set_option maxHeartbeats 4000000
namespace EK
open PySem L2 PySem.Spec PyProof.Rows
section
variable {X : Cx} {C : Ct} {Φ Φf : Str → Option Fsem} {G : Str → Option D} {W : WX} {s : Stmt} {H H' : Hp} {ρ ρ' : Rg} {σ : L2.St} {Γ : Gam} {S S' : Sto} {n0 fuel : Nat} {En : Ends}
theorem sole_no {v t : Expr} {l : Nat} {env : Env} (h : noComp v = true) : swapsWithSole [t] v l env = pure false := by
  show swapsWith v (some t) l env = pure false
  exact swaps_no h
theorem Rg.keep_grow {ρ : Rg} {p : Addr} : ∀ a, a ∈ ρ.grow p ↔ a ∈ ρ.keep p := fun a => by rw [Rg.mem_grow, Rg.mem_keep]
/-- a reserved object comes into the store -/
theorem StOk.toGrow {p : Addr} {o : O} (s : StOk C H (ρ.keep p) S) (q : OAt C H (ρ.keep p) p o) : StOk C H (ρ.grow p) (S ++ [o]) := by
  have hs : ∀ a, a ∈ ρ.grow p → a ∈ ρ.keep p := fun a h => (Rg.keep_grow a).mp h
  have nd : (ρ.st ++ (ρ.ex ++ [p])).Nodup := s.nd
  refine ⟨by show (ρ.st ++ [p]).length = _; have := s.len; have e : (ρ.keep p).st = ρ.st := rfl; rw [e] at this; simp [this], ?_, fun j a u h1 h2 => ?_, fun a ha => s.rs a (List.mem_append_left _ ha)⟩
  · show ((ρ.st ++ [p]) ++ ρ.ex).Nodup
    have : ((ρ.st ++ [p]) ++ ρ.ex).Perm (ρ.st ++ (ρ.ex ++ [p])) := by
      rw [List.append_assoc]
      exact List.Perm.append_left _ (List.perm_append_comm)
    exact this.nodup_iff.mpr nd
  · have h1 : (ρ.st ++ [p])[j]? = some a := h1
    have hl : ρ.st.length = S.length := s.len
    by_cases e : j < ρ.st.length
    · rw [List.getElem?_append_left e] at h1
      rw [List.getElem?_append_left (by rw [← hl]; exact e)] at h2
      exact (s.at_ j a u h1 h2).less hs
    · have e1 : j = ρ.st.length := by
        have := (List.getElem?_eq_some_iff.mp h1).1
        rw [List.length_append, List.length_singleton] at this
        omega
      subst e1
      rw [List.getElem?_append_right (Nat.le_refl _), Nat.sub_self] at h1
      rw [hl, List.getElem?_append_right (Nat.le_refl _), Nat.sub_self] at h2
      cases h1
      cases h2
      exact q.less hs
theorem Nx.toGrow {p : Addr} (n : Nx H ρ H' ρ) (hp : H p = none) : Nx H ρ H' (ρ.grow p) := ⟨n.kp, fun a z => by
  rcases Rg.mem_grow.mp z with z | z
  · exact .inl z
  · rw [z]; exact .inr hp⟩
theorem Nxs.toGrow {p : Addr} (h0 : n0 ≤ ρ.st.length) (n : Nx H ρ H' ρ) (s : StOk C H' ρ S) (hp : H p = none) : Nxs n0 H ρ H' (ρ.grow p) := by
  refine ⟨n.toGrow hp, fun a z => ?_, rfl, ?_, (n.s (n0 := n0) s).al⟩
  · have z : a ∈ ρ.st ++ [p] := z
    rcases List.mem_append.mp z with z | z
    · exact .inl z
    · rw [List.mem_singleton.mp z]; exact .inr hp
  · show (ρ.st ++ [p]).take n0 = _
    rw [List.take_append_of_le_length h0]
theorem Pre.grow {p : Addr} : Pre ρ (ρ.grow p) := fun k a e => by
  show (ρ.st ++ [p])[k]? = some a
  rw [List.getElem?_append_left (List.getElem?_eq_some_iff.mp e).1]; exact e
theorem grow_last {p : Addr} (hl : ρ.st.length = S.length) : (ρ.grow p).st[S.length]? = some p := by
  show (ρ.st ++ [p])[S.length]? = some p
  rw [← hl, List.getElem?_append_right (Nat.le_refl _), Nat.sub_self]; rfl
/-- what is known of a new object, kept by a step -/
theorem own_step {d : D} {v : V} {i : Nat} {Γ' Γ2 : Gam} {S1 S2 : Sto} {H1 : Hp} {σ' : L2.St} (h0 : n0 ≤ ρ.st.length) (n1 : Nx H ρ H1 ρ) (s1 : StOk C H1 ρ S1) (rg : RepG C H ρ σ' Γ') (nw : New C H H1 ρ S1 v d) (ho : asOwn Γ' S1 i d = some (Γ2, S2)) :
    ∃ ρ2, Nxs n0 H ρ H1 ρ2 ∧ StOk C H1 ρ2 S2 ∧ RepG C H1 ρ2 (σ'.set i (some v)) Γ2 ∧ n0 ≤ ρ2.st.length ∧ Pre ρ ρ2 ∧ Nx H ρ H1 ρ2 := by
  obtain ⟨p, o, rfl, e2, e3, e4, e5⟩ := nw
  unfold asOwn at ho
  rw [e2] at ho
  cases ho
  refine ⟨ρ.grow p, Nxs.toGrow h0 n1 s1 e3, e4.toGrow e5, (rg.nx (n1.toGrow e3) Pre.grow).set (.inr ⟨_, p, rfl, rfl, grow_last s1.len⟩), ?_, Pre.grow, n1.toGrow e3⟩
  show n0 ≤ (ρ.st ++ [p]).length
  rw [List.length_append]; omega
end
/-! the readings below say, too, that the def's own part of the store begins at n0 -/
def tDS' (C : Ct) (W : WX) (n0 : Nat) (f : Gam → Sto → SR) : TS := fun En σ H => ∃ ρ Γ S, n0 ≤ ρ.st.length ∧ StOk C H ρ S ∧ RepG C H ρ σ Γ ∧ FinS C W n0 En ρ H (f Γ S)
section
variable {X : Cx} {C : Ct} {Φ Φf : Str → Option Fsem} {G : Str → Option D} {W : WX} {s : Stmt} {H H' : Hp} {ρ ρ' : Rg} {σ : L2.St} {Γ : Gam} {S S' : Sto} {n0 fuel : Nat} {En : Ends}
theorem weak {f : Gam → Sto → SR} (h : PS X s (tDS C W n0 f)) : PS X s (tDS' C W n0 f) := h.mono fun En σ H ⟨ρ, Γ, S, _, st, rg, q⟩ => ⟨ρ, Γ, S, st, rg, q⟩
theorem tDF_go {f : Gam → Sto → R} {k : D → Sto → SR} {Q' : VK} (st : StOk C H ρ S) (rg : RepG C H ρ σ Γ) (h : FinS C W n0 En ρ H ((f Γ S).go Γ k))
    (hk : ∀ d S' v H', Nx H ρ H' ρ → StOk C H' ρ S' → RepD C H' ρ v d → New C H H' ρ S' v d → FinS C W n0 En ρ H (k d S') → Q' v H') : tDF C W f σ H Q' := by
  refine ⟨ρ, Γ, S, st, rg, ?_⟩
  cases e : f Γ S with
  | ok d S' => rw [e] at h; exact fun v H' n s r nw => hk d S' v H' n s r nw h
  | ex c d S' => rw [e] at h; exact fun Ca dd v H' m n s q nd r => h Ca dd v σ H' ρ m (n.s s) s (rg.nx0 n) q nd r
  | bad => rw [e] at h; exact h
theorem s_own (a : AtS X C Φ Φf G W) {i : Nat} {e : FE} (h : chkS X.N X.env.scope (.own i e) s = true) : PS X s (tDS' C W n0 (exS Φ Φf G fuel n0 (.own i e))) := by
  rw [chkS.eq_def] at h
  dsimp only at h
  split at h
  · rename_i x px v p
    obtain ⟨h, h4⟩ := and2 h
    obtain ⟨h, h3⟩ := and2 h
    obtain ⟨h1, h2⟩ := and2 h
    rw [decide_eq_true_iff] at h2
    refine (ps_asg (g_F a h4) (tg_name (cl := true) a.at_.nd (fun _ => a.fn) h2 h3) (sole_no h1) rfl rfl).mono fun En σ H q => ?_
    obtain ⟨ρ, Γ, S, h0, st, rg, q⟩ := q
    rw [exS] at q
    refine tDF_go st rg q fun d S1 v H1 n1 s1 r1 nw q1 => ?_
    cases ho : asOwn Γ S1 i d with
    | none => rw [ho] at q1; exact q1.elim
    | some w =>
      obtain ⟨Γ2, S2⟩ := w
      rw [ho] at q1
      obtain ⟨ρ2, m1, m2, m3, m4, m5, m6⟩ := own_step h0 n1 s1 rg nw ho
      exact q1 _ H1 ρ2 m1 m2 m3
  · cases h
theorem s_exp (a : AtS X C Φ Φf G W) {e : CE} (h : chkS X.N X.env.scope (.exp e) s = true) : PS X s (tDS C W n0 (exS Φ Φf G fuel n0 (.exp e))) := by
  rw [chkS.eq_def] at h
  dsimp only at h
  split at h
  · rename_i v p
    obtain ⟨h1, h2⟩ := and2 h
    refine (ps_expr (sound e X W v a.at_ h2 (.inr a.lam)).1 (swaps_no h1)).mono fun En σ H q => ?_
    obtain ⟨ρ, Γ, S, st, rg, q⟩ := q
    rw [exS] at q
    refine tDE_go st rg q fun d S1 x H1 n1 s1 r1 rg1 q1 => q1 σ H1 ρ (Nxs.refl _ _ _) s1 rg1
  · cases h
theorem s_raise (a : AtS X C Φ Φf G W) {c : Str} {e : CE} (h : chkS X.N X.env.scope (.raise c e) s = true) : PS X s (tDS C W n0 (exS Φ Φf G fuel n0 (.raise c e))) := by
  rw [chkS.eq_def] at h
  dsimp only at h
  split at h
  · rename_i x p y q0 p1
    obtain ⟨h, h4⟩ := and2 h
    obtain ⟨h, h3⟩ := and2 h
    obtain ⟨h1, h2⟩ := and2 h
    rw [decide_eq_true_iff] at h1
    subst h1
    obtain ⟨g1, g2, g3⟩ := gl_of h2
    by_cases hc : isFn x (G x) = true ∧ isXc x = true
    · obtain ⟨Ca, hm, hm'⟩ := isFn_at a.at_ hc.1
      obtain ⟨r, er, ef⟩ := isXc_at hc.2
      have T := a.at_.xcs x r Ca er hm
      obtain ⟨B, n1, n2, bmB, T1⟩ := T.xc
      refine (ps_raise a.at_.calm a.at_.tk (pmk_x (p := p) (pos := q0) T1 (a.at_.blt _ (by decide)) a.at_.rm.rm g1 hm (sound e X W y a.at_ h4 (.inr a.lam)).1 g2 (star_of h3))).mono fun En σ H q => ?_
      obtain ⟨ρ, Γ, S, st, rg, q⟩ := q
      rw [exS, if_pos hc] at q
      refine tDE_go st rg q fun d S1 v H1 n1 s1 r1 rg1 q1 dd nd => ?_
      split at q1
      · rename_i hn
        have N : Nx H1 ρ (upd H1 dd (.xd [(r.1, v)])) ρ := Nx.new nd
        refine q1 Ca dd v σ _ ρ hm' (N.s (s1.new nd)) (s1.new nd) (rg1.nx0 N) ?_ (s1.free nd) ((r1.d hn).nx N)
        rw [upd_same, a.at_.fld, ef]
      · exact q1.elim
    · exact ps_never.mono fun En σ H ⟨ρ, Γ, S, _, _, q⟩ => by rw [exS, if_neg hc] at q; exact q
  · cases h
theorem s_ret (a : AtS X C Φ Φf G W) {e : CE} (h : chkS X.N X.env.scope (.ret e) s = true) : PS X s (tDS C W n0 (exS Φ Φf G fuel n0 (.ret e))) := by
  rw [chkS.eq_def] at h
  dsimp only at h
  split at h
  · rename_i v p
    refine (ps_ret (sound e X W v a.at_ h (.inr a.lam)).1).mono fun En σ H q => ?_
    obtain ⟨ρ, Γ, S, st, rg, q⟩ := q
    rw [exS] at q
    refine tDE_go st rg q fun d S1 x H1 n1 s1 r1 rg1 q1 => q1 x H1 ρ (Nxs.refl _ _ _) s1 r1 (fun z => by cases z)
  · cases h
theorem s_retF (a : AtS X C Φ Φf G W) {e : FE} (h : chkS X.N X.env.scope (.retF e) s = true) : PS X s (tDS C W n0 (exS Φ Φf G fuel n0 (.retF e))) := by
  rw [chkS.eq_def] at h
  dsimp only at h
  split at h
  · rename_i v p
    refine (ps_ret (g_F a h)).mono fun En σ H q => ?_
    obtain ⟨ρ, Γ, S, st, rg, q⟩ := q
    rw [exS] at q
    refine tDF_go st rg q fun d S1 x H1 n1 s1 r1 nw q1 => q1 x H1 ρ (n1.s s1) s1 (.inl r1) (fun _ => nw)
  · cases h
theorem var_pe {i : Nat} {x : Str} {p : Pos} (h : varB X.env.scope X.N i x = true) : PE X (.Name x p) (tVar i) := by
  unfold varB at h
  obtain ⟨h, h4⟩ := and2 h
  obtain ⟨h, h3⟩ := and2 h
  obtain ⟨h1, h2⟩ := and2 h
  rw [decide_eq_true_iff] at h1
  refine pe_var h1 ?_ (by simpa using h3) (by simpa using h4)
  unfold visB at h2
  split at h2
  · exact .inl (by assumption)
  · exact .inr (.inl (by assumption))
  · exact .inr (.inr (by assumption))
  · cases h2
/-- the object of the store that a slot holds -/
theorem loc_at {i k : Nat} (st : StOk C H ρ S) (rg : RepG C H ρ σ Γ) (h : Γ[i]? = some (some (.loc k))) : ∃ p, σ[i]? = some (some (.ref p)) ∧ ρ.st[k]? = some p := by
  obtain ⟨v, h1, h2⟩ := rg.at_ i _ h
  rcases h2 with h2 | ⟨k', a, e, rfl, h3⟩
  · exact absurd rfl (h2.noloc (k := k))
  · cases e; exact ⟨a, h1, h3⟩
theorem s_app (a : AtS X C Φ Φf G W) {i : Nat} {e : CE} (h : chkS X.N X.env.scope (.app i e) s = true) : PS X s (tDS C W n0 (exS Φ Φf G fuel n0 (.app i e))) := by
  rw [chkS.eq_def] at h
  dsimp only at h
  split at h
  · rename_i x px n ap y cp p
    obtain ⟨h, h5⟩ := and2 h
    obtain ⟨h, h4⟩ := and2 h
    obtain ⟨h, h3⟩ := and2 h
    obtain ⟨h1, h2⟩ := and2 h
    rw [decide_eq_true_iff] at h1
    subst h1
    refine (ps_expr (pe_bm F.plainAttrs_list F.slot_list_append F.type_list_append mt_append (var_pe h2) (pa_cons (sound e X W y a.at_ h5 (.inr a.lam)).1 pa_nil (star_of h3)) rfl (few_of h3) h4 (star_of h3) rfl) rfl).mono fun En σ H q => ?_
    obtain ⟨ρ, Γ, S, st, rg, q⟩ := q
    rw [exS] at q
    split at q
    · rename_i k hk
      obtain ⟨b, hb, hkb⟩ := loc_at st rg hk
      split at q
      · rename_i ds0 hS
        refine ⟨_, hb, ?_, ?_⟩
        · obtain ⟨xs, hx, _⟩ := st.at_ k b _ hkb hS
          exact .inl ⟨rfl, xs, .inl (.inl hx)⟩
        · refine tDE_go st rg q fun d S1 v H1 n1 s1 r1 rg1 q1 => ?_
          split at q1
          · rename_i ds hS1
            split at q1
            · rename_i hc
              obtain ⟨xs, hx, ra⟩ := s1.at_ k b _ hkb hS1
              have hm : b ∈ ρ.st := List.mem_of_getElem? hkb
              have hn := Nx.mut (H := H1) (ρ := ρ) (o := .lst (xs ++ [v])) hm
              refine ⟨b, xs, v, rfl, rfl, hx, by rw [ra.length, szL_eq]; exact hc.2, ?_⟩
              have s2 : StOk C (upd H1 b (.lst (xs ++ [v]))) ρ (S1.set k (.lst (ds ++ [d]))) := s1.mut hkb ⟨_, upd_same, (ra.nx hn).append (.cons ((r1.d hc.1).nx hn) .nil)⟩
              exact q1 σ _ ρ (hn.s s2) s2 (rg1.nx0 hn)
            · exact q1.elim
          · exact q1.elim
      · exact q.elim
    · exact q.elim
  · cases h
theorem s_putL (a : AtS X C Φ Φf G W) {i : Nat} {k e : CE} (h : chkS X.N X.env.scope (.putL i k e) s = true) : PS X s (tDS C W n0 (exS Φ Φf G fuel n0 (.putL i k e))) := by
  rw [chkS.eq_def] at h
  dsimp only at h
  split at h
  · rename_i x px j pj v p
    obtain ⟨h, h5⟩ := and2 h
    obtain ⟨h, h4⟩ := and2 h
    obtain ⟨h, h3⟩ := and2 h
    obtain ⟨h1, h2⟩ := and2 h
    refine (ps_asg (sound e X W v a.at_ h5 (.inr a.lam)).1 (pg_sub (var_pe h2) (sound k X W j a.at_ h4 (.inr a.lam)).1 set_list (by intro _; cases j <;> first | rfl | cases h3)) (sole_no h1) rfl rfl).mono fun En σ H q => ?_
    obtain ⟨ρ, Γ, S, st, rg, q⟩ := q
    rw [exS] at q
    refine tDE_go st rg q fun d S1 v H1 n1 s1 r1 rg1 q1 => ?_
    split at q1
    · rename_i l hl
      obtain ⟨b, hb, hkb⟩ := loc_at s1 rg1 hl
      refine ⟨_, hb, ?_⟩
      refine tDE_go s1 rg1 q1 fun z S2 y H2 n2 s2 r2 rg2 q2 => ?_
      split at q2
      · rename_i ds zi hS
        split at q2
        · rename_i m hm
          split at q2
          · rename_i hc
            obtain ⟨xs, hx, ra⟩ := s2.at_ l b _ hkb hS
            obtain rfl := r2.int
            have hmem : b ∈ ρ.st := List.mem_of_getElem? hkb
            have hn := Nx.mut (H := H2) (ρ := ρ) (o := .lst (xs.set m v)) hmem
            refine ⟨b, xs, zi, m, rfl, rfl, hx, by rw [ra.length]; exact hm, ?_⟩
            have s3 : StOk C (upd H2 b (.lst (xs.set m v))) ρ (S2.set l (.lst (ds.set m d))) := s2.mut hkb ⟨_, upd_same, (ra.nx hn).set (((r1.nx0 n2).d hc).nx hn)⟩
            exact q2 σ _ ρ (hn.s s3) s3 (rg2.nx0 hn)
          · exact q2.elim
        · exact q2.elim
      · exact q2.elim
    · exact q1.elim
  · cases h
theorem RepA.putK {k : Key} {v : V} {d : D} (rv : RepD C H ρ v d) : ∀ {kvs : List (Key × V)} {es : List (Key × D)}, kvs.map (·.1) = es.map (·.1) → RepA C H ρ (kvs.map (·.2)) (es.map (·.2)) →
    (L2.putK kvs k v).map (·.1) = (putKD es k d).map (·.1) ∧ RepA C H ρ ((L2.putK kvs k v).map (·.2)) ((putKD es k d).map (·.2)) := by
  intro kvs es e r
  have hany : ∀ (kvs : List (Key × V)) (es : List (Key × D)), kvs.map (·.1) = es.map (·.1) → (kvs.any fun kv => decide (kv.1 = k)) = (es.any fun kv => decide (kv.1 = k)) := by
    intro kvs
    induction kvs with
    | nil => intro es e; cases es with | nil => rfl | cons _ _ => cases e
    | cons p kvs ih =>
      intro es e
      cases es with
      | nil => cases e
      | cons q es =>
        have e1 : p.1 = q.1 := (List.cons.inj e).1
        rw [List.any_cons, List.any_cons, ih es (List.cons.inj e).2, e1]
  have hmap : ∀ (kvs : List (Key × V)) (es : List (Key × D)), kvs.map (·.1) = es.map (·.1) → RepA C H ρ (kvs.map (·.2)) (es.map (·.2)) →
      (kvs.map fun kv => if kv.1 = k then (kv.1, v) else kv).map (·.1) = (es.map fun kv => if kv.1 = k then (kv.1, d) else kv).map (·.1) ∧ RepA C H ρ ((kvs.map fun kv => if kv.1 = k then (kv.1, v) else kv).map (·.2)) ((es.map fun kv => if kv.1 = k then (kv.1, d) else kv).map (·.2)) := by
    intro kvs
    induction kvs with
    | nil => intro es e _; cases es with | nil => exact ⟨rfl, .nil⟩ | cons _ _ => cases e
    | cons p kvs ih =>
      intro es e r
      cases es with
      | nil => cases e
      | cons q es =>
        have e1 : p.1 = q.1 := (List.cons.inj e).1
        cases r with
        | cons r1 r2 =>
          obtain ⟨i1, i2⟩ := ih es (List.cons.inj e).2 r2
          rw [List.map_cons, List.map_cons, List.map_cons, List.map_cons, List.map_cons, List.map_cons, i1]
          by_cases hq : q.1 = k
          · rw [if_pos (e1.trans hq), if_pos hq]
            exact ⟨by rw [e1], .cons rv i2⟩
          · rw [if_neg (fun z => hq (e1.symm.trans z)), if_neg hq]
            exact ⟨by rw [e1], .cons r1 i2⟩
  unfold L2.putK putKD
  rw [hany kvs es e]
  split
  · exact hmap kvs es e r
  · rw [List.map_append, List.map_append, List.map_append, List.map_append, e]
    exact ⟨rfl, r.append (.cons rv .nil)⟩
theorem s_putD (a : AtS X C Φ Φf G W) {i : Nat} {k e : CE} (h : chkS X.N X.env.scope (.putD i k e) s = true) : PS X s (tDS C W n0 (exS Φ Φf G fuel n0 (.putD i k e))) := by
  rw [chkS.eq_def] at h
  dsimp only at h
  split at h
  · rename_i x px j pj v p
    obtain ⟨h, h5⟩ := and2 h
    obtain ⟨h, h4⟩ := and2 h
    obtain ⟨h, h3⟩ := and2 h
    obtain ⟨h1, h2⟩ := and2 h
    refine (ps_dput (by have := a.at_.units; omega) (var_pe h2) (sound k X W j a.at_ h4 (.inr a.lam)).1 (sound e X W v a.at_ h5 (.inr a.lam)).1 (swaps_no h1)).mono fun En σ H q => ?_
    obtain ⟨ρ, Γ, S, st, rg, q⟩ := q
    rw [exS] at q
    refine tDE_go st rg q fun d S1 v H1 n1 s1 r1 rg1 q1 => ?_
    split at q1
    · rename_i l hl
      obtain ⟨b, hb, hkb⟩ := loc_at s1 rg1 hl
      refine ⟨_, hb, ?_⟩
      refine tDE_go s1 rg1 q1 fun z S2 y H2 n2 s2 r2 rg2 q2 => ?_
      split at q2
      · rename_i es qk hS hq
        split at q2
        · rename_i hc
          obtain ⟨kvs, hx, ek, ra⟩ := s2.at_ l b _ hkb hS
          have hmem : b ∈ ρ.st := List.mem_of_getElem? hkb
          have hn := Nx.mut (H := H2) (ρ := ρ) (o := .dK (L2.putK kvs qk v)) hmem
          have hkl : kvs.length = es.length := by have := congrArg List.length ek; simpa using this
          have hy : y = kV qk := by
            have hz : noLoc z = true := by cases z <;> first | rfl | cases hq
            have : VwR C H2 ρ y z := .inl (r2.d hz)
            exact this.key hq
          refine ⟨b, _, rfl, .inl ⟨kvs, qk, hx, hy, by rw [hkl, szL_eq]; exact hc.2, rfl⟩, ?_⟩
          obtain ⟨i1, i2⟩ := RepA.putK (k := qk) (((r1.nx0 n2).d hc.1).nx hn) ek (ra.nx hn)
          have s3 : StOk C (upd H2 b (.dK (L2.putK kvs qk v))) ρ (S2.set l (.dic (putKD es qk d))) := s2.mut hkb ⟨_, upd_same, i1, i2⟩
          exact q2 σ _ ρ (hn.s s3) s3 (rg2.nx0 hn)
        · exact q2.elim
      · exact q2.elim
    · exact q1.elim
  · cases h

/-! ### parallel assignment -/
def tEs (C : Ct) (W : WX) (Φ Φf : Str → Option Fsem) (G : Str → Option D) : List (CE ⊕ FE) → TA
  | [] => tNil
  | .inl c :: es => tCons (tDE C W (ev Φ G c)) (tEs C W Φ Φf G es)
  | .inr c :: es => tCons (tDF C W (evF Φ Φf G c)) (tEs C W Φ Φf G es)
theorem es_pa (a : AtS X C Φ Φf G W) : ∀ {es : List (CE ⊕ FE)} {vs : List Expr}, chkEs X.N X.env.scope es vs = true → PA X vs (tEs C W Φ Φf G es)
  | [], vs, h => by
    unfold chkEs at h
    cases vs with
    | nil => exact pa_nil
    | cons _ _ => cases h
  | .inl c :: es, vs, h => by
    unfold chkEs at h
    cases vs with
    | nil => cases h
    | cons v vs =>
      obtain ⟨h, h3⟩ := and2 h
      obtain ⟨h1, h2⟩ := and2 h
      exact pa_cons (sound c X W v a.at_ h2 (.inr a.lam)).1 (es_pa a h3) (star_of h1)
  | .inr c :: es, vs, h => by
    unfold chkEs at h
    cases vs with
    | nil => cases h
    | cons v vs =>
      obtain ⟨h, h3⟩ := and2 h
      obtain ⟨h1, h2⟩ := and2 h
      exact pa_cons (g_F a h2) (es_pa a h3) (star_of h1)
def setAll : List Nat → List V → L2.St → L2.St
  | i :: is, v :: vs, σ => setAll is vs (σ.set i (some v))
  | _, _, σ => σ
theorem RepG.mono {Γ' : Gam} {σ' : L2.St} (N : Nx H ρ H' ρ') (p : Pre ρ ρ') (g : RepG C H ρ σ' Γ') : RepG C H' ρ' σ' Γ' := g.nx N p
theorem par_imp : ∀ {is : List Nat} {es : List (CE ⊕ FE)} {H : Hp} {ρ : Rg} {S : Sto} {Γ Γ' : Gam} {σ σ' : L2.St}, n0 ≤ ρ.st.length → StOk C H ρ S → RepG C H ρ σ Γ → RepG C H ρ σ' Γ' → FinS C W n0 En ρ H (parS Φ Φf G is es Γ Γ' S) →
    tEs C W Φ Φf G es σ H fun vs H1 => vs.length = is.length ∧ En.nx (setAll is vs σ') H1
  | [], [], H, ρ, S, Γ, Γ', σ, σ', h0, st, rg, rg', q => by
    unfold parS at q
    exact ⟨rfl, q σ' H ρ (Nxs.refl _ _ _) st rg'⟩
  | i :: is, .inl c :: es, H, ρ, S, Γ, Γ', σ, σ', h0, st, rg, rg', q => by
    unfold parS at q
    refine tDE_go st rg q fun d S1 v H1 n1 s1 r1 rg1 q1 => ?_
    have ih := par_imp (is := is) (es := es) h0 s1 rg1 ((rg'.nx0 n1).set (i := i) r1) q1
    exact es_mono ih fun vs H2 ⟨e1, e2⟩ => ⟨by rw [List.length_cons, List.length_cons, e1], e2⟩
  | i :: is, .inr c :: es, H, ρ, S, Γ, Γ', σ, σ', h0, st, rg, rg', q => by
    unfold parS at q
    refine tDF_go st rg q fun d S1 v H1 n1 s1 r1 nw q1 => ?_
    cases ho : asOwn Γ' S1 i d with
    | none => rw [ho] at q1; exact q1.elim
    | some w =>
      obtain ⟨Γ2, S2⟩ := w
      rw [ho] at q1
      obtain ⟨ρ2, m1, m2, m3, m4, m5, m6⟩ := own_step h0 n1 s1 rg' nw ho
      have ih := par_imp (is := is) (es := es) (H := H1) (ρ := ρ2) (σ := σ) (Γ := Γ) m4 m2 (rg.nx m6 m5) m3 (FinS.nxs m1 q1)
      exact es_mono ih fun vs H2 ⟨e1, e2⟩ => ⟨by rw [List.length_cons, List.length_cons, e1], e2⟩
  | [], _ :: _, _, _, _, _, _, _, _, _, _, _, _, q => by unfold parS at q; exact q.elim
  | _ :: _, [], _, _, _, _, _, _, _, _, _, _, _, q => by unfold parS at q; exact q.elim
where es_mono : ∀ {es : List (CE ⊕ FE)} {σ : L2.St} {H : Hp} {P P' : List V → Hp → Prop}, tEs C W Φ Φf G es σ H P → (∀ vs H, P vs H → P' vs H) → tEs C W Φ Φf G es σ H P'
  | [], _, _, _, _, h, i => i _ _ h
  | .inl c :: es, σ, H, P, P', h, i => by
    obtain ⟨ρ, Γ, S, st, rg, h⟩ := h
    refine ⟨ρ, Γ, S, st, rg, ?_⟩
    cases e : ev Φ G c Γ S with
    | bad => rw [e] at h; exact h
    | ex c d S' => rw [e] at h; exact h
    | ok d S1 => rw [e] at h; exact fun v H1 n s r => es_mono (es := es) (h v H1 n s r) fun ps H2 q => i _ _ q
  | .inr c :: es, σ, H, P, P', h, i => by
    obtain ⟨ρ, Γ, S, st, rg, h⟩ := h
    refine ⟨ρ, Γ, S, st, rg, ?_⟩
    cases e : evF Φ Φf G c Γ S with
    | bad => rw [e] at h; exact h
    | ex c d S' => rw [e] at h; exact h
    | ok d S1 => rw [e] at h; exact fun v H1 n s r nw => es_mono (es := es) (h v H1 n s r nw) fun ps H2 q => i _ _ q
theorem nms_par {sc : Scope} {ts : List Expr} {r : List Str} {vs : List Expr} (h : swp ts vs sc = some (some r)) : r = nms sc ts := by
  unfold swp at h
  split at h
  · cases h
  · split at h
    · cases h
    · split at h
      · cases h
      · split at h
        · cases h
        · split at h
          · cases h
          · cases h; rfl
theorem parB_one {N : List Str} {sc : Scope} {i : Nat} {is : List Nat} {ts : List Expr} (h : parB N sc (i :: is) ts = true) : ∃ x p ts', ts = .Name x p :: ts' ∧ N[i]? = some x ∧ sc.names.lookup x = some .local ∧ parB N sc is ts' = true := by
  cases ts with
  | nil => cases h
  | cons t ts' =>
    cases t with
    | Name x p =>
      have h : (decide (N[i]? = some x) && decide (sc.names.lookup x = some .local) && parB N sc is ts') = true := h
      obtain ⟨h, h3⟩ := and2 h
      obtain ⟨h1, h2⟩ := and2 h
      exact ⟨x, p, ts', rfl, of_decide_eq_true h1, of_decide_eq_true h2, h3⟩
    | _ => cases h
theorem parB_end {N : List Str} {sc : Scope} {ts : List Expr} (h : parB N sc [] ts = true) : ts = [] := by
  cases ts with
  | nil => rfl
  | cons t ts' => cases h
theorem fm_all {α β : Type} {f : α → Option β} : ∀ {l : List α}, (l.filterMap f).length = l.length → ∀ a ∈ l, (f a).isSome
  | [], _, a, h => by cases h
  | x :: xs, h, a, ha => by
    cases e : f x with
    | none =>
      rw [List.filterMap_cons_none e] at h
      have := List.length_filterMap_le f xs
      rw [List.length_cons] at h
      omega
    | some b =>
      rw [List.filterMap_cons_some e, List.length_cons, List.length_cons] at h
      rcases List.mem_cons.mp ha with q | q
      · rw [q, e]; rfl
      · exact fm_all (by omega) a q
theorem nmB_of {sc : Scope} {l : Nat} {x : Str} {p : Pos} (h : (nmB sc l (.Name x p)).isSome) : nmB sc l (.Name x p) = some x := by
  have h : (if (sc.names.lookup x == some .local && p.line == l) = true then some x else none).isSome := h
  show (if (sc.names.lookup x == some .local && p.line == l) = true then some x else none) = some x
  by_cases c : (sc.names.lookup x == some .local && p.line == l) = true
  · rw [if_pos c]
  · rw [if_neg c] at h; cases h
theorem s_par (a : AtS X C Φ Φf G W) {is : List Nat} {es : List (CE ⊕ FE)} (h : chkS X.N X.env.scope (.par is es) s = true) : PS X s (tDS' C W n0 (exS Φ Φf G fuel n0 (.par is es))) := by
  rw [chkS.eq_def] at h
  dsimp only at h
  split at h
  · rename_i ts kt pt vs kv pv p
    obtain ⟨h, h5⟩ := and2 h
    obtain ⟨h, h4⟩ := and2 h
    obtain ⟨h, h3⟩ := and2 h
    obtain ⟨h1, h2⟩ := and2 h
    rw [decide_eq_true_iff] at h2 h3
    cases hs : swp ts vs X.env.scope with
    | none => rw [hs] at h1; cases h1
    | some o =>
      cases o with
      | none => rw [hs] at h1; cases h1
      | some r =>
        have hr := nms_par hs
        have hw := swp_ok (env := X.env) (k := kt) (k' := kv) (p := pt) (p' := pv) a.kind hs
        have hpa := es_pa a h5
        have hlen : ts.length = vs.length ∧ r.length = ts.length := by
          unfold swp at hs
          split at hs
          · cases hs
          · rename_i c1
            split at hs
            · cases hs
            · split at hs
              · cases hs
              · rename_i c3
                simp only [Bool.or_eq_true, not_or, Bool.not_eq_true, bne_eq_false_iff_eq] at c1 c3
                exact ⟨c1.2.symm, by rw [hr]; exact c3.1⟩
        have hall := fun (z : (nms X.env.scope ts).length = ts.length) => fm_all z
        have hall := hall (by rw [← hr]; exact hlen.2)
        rcases h3 with h3 | h3
        · match is, h3, h2, h4 with
          | [i, j], _, nd, h4 =>
            obtain ⟨x, px, ts1, rfl, k1, k3, h4⟩ := parB_one h4
            obtain ⟨y, py, ts2, rfl, k2, k4, h4⟩ := parB_one h4
            obtain rfl := parB_end h4
            have hij : i ≠ j := by intro z; subst z; simp at nd
            match vs, hlen, hs, hw, hpa with
            | [v1, v2], hlen, hs, hw, hpa =>
              have hr2 : r = [x, y] := by
                rw [hr]; unfold nms
                rw [List.filterMap_cons_some (nmB_of (hall _ (by simp))), List.filterMap_cons_some (nmB_of (hall _ (by simp)))]; rfl
              rw [hr2] at hw
              refine (ps_par a.at_.calm a.at_.nd k1 k2 hij k3 k4 hpa hw rfl).mono fun En σ H q => ?_
              obtain ⟨ρ, Γ, S, h0, st, rg, q⟩ := q
              rw [exS] at q
              refine par_imp.es_mono (par_imp h0 st rg rg q) fun ws H1 ⟨e1, e2⟩ => ?_
              match ws, e1, e2 with
              | [w1, w2], _, e2 => exact ⟨w1, w2, rfl, e2⟩
        · match is, h3, h2, h4 with
          | [i, j, l], _, nd, h4 =>
            obtain ⟨x, px, ts1, rfl, k1, k3, h4⟩ := parB_one h4
            obtain ⟨y, py, ts2, rfl, k2, k4, h4⟩ := parB_one h4
            obtain ⟨z, pz, ts3, rfl, k5, k6, h4⟩ := parB_one h4
            obtain rfl := parB_end h4
            have hij : i ≠ j := by intro z; subst z; simp at nd
            have hil : i ≠ l := by intro z; subst z; simp at nd
            have hjl : j ≠ l := by intro z; subst z; simp at nd
            match vs, hlen, hs, hw, hpa with
            | [v1, v2, v3], hlen, hs, hw, hpa =>
              have hr2 : r = [x, y, z] := by
                rw [hr]; unfold nms
                rw [List.filterMap_cons_some (nmB_of (hall _ (by simp))), List.filterMap_cons_some (nmB_of (hall _ (by simp))), List.filterMap_cons_some (nmB_of (hall _ (by simp)))]; rfl
              rw [hr2] at hw
              refine (ps_par3 a.at_.calm a.at_.nd k1 k2 k5 hij hil hjl k3 k4 k6 hpa hw rfl).mono fun En σ H q => ?_
              obtain ⟨ρ, Γ, S, h0, st, rg, q⟩ := q
              rw [exS] at q
              refine par_imp.es_mono (par_imp h0 st rg rg q) fun ws H1 ⟨e1, e2⟩ => ?_
              match ws, e1, e2 with
              | [w1, w2, w3], _, e2 => exact ⟨w1, w2, w3, rfl, e2⟩
  · cases h
end
end EK

set_option Elab.async false
set_option linter.all false
set_option maxRecDepth 100000
set_option maxHeartbeats 4000000
namespace EK
open PySem L2 PySem.Spec PyProof.Rows
section
variable {X : Cx} {C : Ct} {Φ Φf : Str → Option Fsem} {G : Str → Option D} {W : WX} {s : Stmt} {H H' : Hp} {ρ ρ' : Rg} {σ : L2.St} {Γ : Gam} {S S' : Sto} {n0 fuel : Nat} {En : Ends}
theorem Nxs.len (n : Nxs n0 H ρ H' ρ') (h : n0 ≤ ρ.st.length) : n0 ≤ ρ'.st.length := by
  have := congrArg List.length n.pre
  rw [List.length_take, List.length_take] at this
  omega
/-- a run and what follows it -/
theorem then_fin {r : SR} {k : Gam → Sto → SR} {En' : Ends} (q : FinS C W n0 En ρ H (r.then k)) (hr : En'.rt = En.rt)
    (hk : ∀ σ' H' ρ' Γ' S', Nxs n0 H ρ H' ρ' → StOk C H' ρ' S' → RepG C H' ρ' σ' Γ' → FinS C W n0 En ρ' H' (k Γ' S') → En'.nx σ' H') : FinS C W n0 En' ρ H r := by
  cases r with
  | next Γ1 S1 => exact fun σ' H' ρ' n s g => hk σ' H' ρ' Γ1 S1 n s g (FinS.nxs n q)
  | ret d S1 fr => exact fun v H' ρ' n s g f => by rw [hr]; exact q v H' ρ' n s g f
  | ex c d Γ1 S1 => exact q
  | bad => exact q
theorem s_ite (a : AtS X C Φ Φf G W) {c : CE} {as bs : List CS} (h : chkS X.N X.env.scope (.ite c as bs) s = true)
    (ha : ∀ ss, chkSs X.N X.env.scope as ss = true → PSs X ss (tDS' C W n0 (exSs Φ Φf G fuel n0 as))) (hb : ∀ ss, chkSs X.N X.env.scope bs ss = true → PSs X ss (tDS' C W n0 (exSs Φ Φf G fuel n0 bs))) :
    PS X s (tDS' C W n0 (exS Φ Φf G fuel n0 (.ite c as bs))) := by
  rw [chkS.eq_def] at h
  dsimp only at h
  split at h
  · rename_i t p q pos
    obtain ⟨h, h4⟩ := and2 h
    obtain ⟨h, h3⟩ := and2 h
    obtain ⟨h1, h2⟩ := and2 h
    refine (ps_if ((sound c X W t a.at_ h2 (.inr a.lam)).2.1 h1) (ha _ h3) (hb _ h4)).mono fun En σ H q => ?_
    obtain ⟨ρ, Γ, S, h0, st, rg, q⟩ := q
    rw [exS] at q
    refine tDT_go st rg q (fun d S' z => ?_) fun b S1 H1 n1 s1 rg1 q1 => ?_
    · cases d with
      | bl b => exact ⟨b, rfl⟩
      | _ => exact absurd rfl z
    · cases b with
      | true => exact ⟨ρ, Γ, S1, h0, s1, rg1, q1⟩
      | false => exact ⟨ρ, Γ, S1, h0, s1, rg1, q1⟩
  · cases h
theorem s_loop (a : AtS X C Φ Φf G W) {tg : Tg} {ik : Ik} {ia : List CE} {bs : List CS} (h : chkS X.N X.env.scope (.loop tg ik ia bs) s = true)
    (hb : ∀ ss, chkSs X.N X.env.scope bs ss = true → PSs X ss (tDS' C W n0 (exSs Φ Φf G fuel n0 bs))) :
    PS X s (tDS' C W n0 (exS Φ Φf G fuel n0 (.loop tg ik ia bs))) := by
  rw [chkS.eq_def] at h
  dsimp only at h
  split at h
  · rename_i t it b pos
    obtain ⟨h, h4⟩ := and2 h
    obtain ⟨h, h3⟩ := and2 h
    obtain ⟨h1, h2⟩ := and2 h
    refine (ps_for a.po a.at_.calm (pi_ok a.at_ h3 (fun c hc e' q => sounds ia c hc X W e' a.at_ q (.inr a.lam))) (tg_ok a.at_.hK a.at_.calm a.at_.nd (fun _ => a.fn) h2) (hb _ h4) (folded_of h1)).mono fun En σ H q => ?_
    obtain ⟨ρ, Γ, S, h0, st, rg, q⟩ := q
    rw [exS] at q
    refine ⟨ρ, Γ, S, st, rg, ?_⟩
    cases e1 : evs Φ G ia Γ S with
    | bad => rw [e1] at q; exact q
    | ex c d S' => rw [e1] at q; exact fun Ca dd v H' m n s w nd r => q Ca dd v σ H' ρ m (n.s s) s (rg.nx0 n) w nd r
    | ok ds S1 =>
      rw [e1] at q
      have q : FinS C W n0 En ρ H (match itD ik ds with | some items => loopN (exSs Φ Φf G fuel n0 bs) tg items Γ S1 | none => .bad) := q
      cases e2 : itD ik ds with
      | none => rw [e2] at q; exact q.elim
      | some items =>
        rw [e2] at q
        refine ⟨items, e2, fun J H1 n1 st1 hj => ?_⟩
        obtain ⟨g, y, w, hg, hy⟩ := hj
        refine for_it w (fun i σ H => ∃ ρ2 Γ S, Nxs n0 H1 ρ H ρ2 ∧ StOk C H ρ2 S ∧ RepG C H ρ2 σ Γ ∧ FinS C W n0 En ρ2 H (loopN (exSs Φ Φf G fuel n0 bs) tg (items.drop i) Γ S)) ?_ ?_ ?_ ?_
        · exact ⟨ρ, Γ, S1, Nxs.refl _ _ _, st1, rg.nx0 n1, FinS.nx n1 st1 q⟩
        · rintro i σ H _ ⟨ρ2, Γ, S, n2, _⟩
          exact hg H ρ2 n2.nx
        · rintro i x σ H H' hi ⟨ρ2, Γ, S, n2, s2, rg2, q2⟩ hyi
          obtain ⟨hc, d, hd, rd⟩ := hy i H ρ2 x H' n2.nx (fun a ha => s2.there ha) hyi
          have n3 : Nx H ρ2 H' ρ2 ∧ StOk C H' ρ2 S := by
            rcases hc with rfl | ⟨T, o, hT, rfl⟩
            · exact ⟨Nx.refl _ _, s2⟩
            · exact ⟨Nx.new hT, s2.new hT⟩
          have hdrop : items.drop i = d :: items.drop (i + 1) := by
            have hlt := (List.getElem?_eq_some_iff.mp hd).1
            rw [List.drop_eq_getElem_cons hlt]
            have := (List.getElem?_eq_some_iff.mp hd).2
            rw [this]
          rw [hdrop] at q2
          unfold loopN at q2
          cases hs : setTg tg d Γ with
          | none => rw [hs] at q2; exact q2.elim
          | some Γ' =>
            rw [hs] at q2
            refine gT_ok (rg2.nx0 n3.1) (.inl rd) hs fun σ2 rg3 o2 => ?_
            refine ⟨ρ2, Γ', S, n2.len h0, n3.2, rg3, ?_⟩
            refine then_fin (FinS.nx n3.1 n3.2 q2) rfl fun σ4 H4 ρ4 Γ4 S4 n4 s4 rg4 q4 => ?_
            exact ⟨ρ4, Γ4, S4, (n2.trans (n3.1.s n3.2)).trans n4, s4, rg4, q4⟩
        · rintro σ H ⟨ρ2, Γ, S, n2, s2, rg2, q2⟩
          rw [List.drop_length] at q2
          unfold loopN at q2
          exact q2 σ H ρ2 (Nxs.refl _ _ _) s2 rg2
  · cases h
theorem s_while (a : AtS X C Φ Φf G W) {c : CE} {bs : List CS} (h : chkS X.N X.env.scope (.while c bs) s = true)
    (hb : ∀ ss, chkSs X.N X.env.scope bs ss = true → PSs X ss (tDS' C W n0 (exSs Φ Φf G fuel n0 bs))) :
    PS X s (tDS' C W n0 (exS Φ Φf G fuel n0 (.while c bs))) := by
  rw [chkS.eq_def] at h
  dsimp only at h
  split at h
  · rename_i t b pos
    obtain ⟨h, h3⟩ := and2 h
    obtain ⟨h1, h2⟩ := and2 h
    refine (ps_while a.po ((sound c X W t a.at_ h2 (.inr a.lam)).2.1 h1) (hb _ h3)).mono fun En σ H q => ?_
    obtain ⟨ρ, Γ, S, h0, st, rg, q⟩ := q
    rw [exS] at q
    refine ⟨fun m σ' H' => ∃ ρ' Γ S, Nxs n0 H ρ H' ρ' ∧ StOk C H' ρ' S ∧ RepG C H' ρ' σ' Γ ∧ FinS C W n0 En ρ' H' (whileN (ev Φ G c) (exSs Φ Φf G fuel n0 bs) m Γ S), ⟨fuel, ρ, Γ, S, Nxs.refl _ _ _, st, rg, q⟩, ?_⟩
    rintro m σ1 H1 ⟨ρ1, Γ1, S1, n1, s1, rg1, q1⟩
    cases m with
    | zero => exact q1.elim
    | succ m =>
      unfold whileN at q1
      refine tDT_go s1 rg1 q1 (fun d S' z => ?_) fun b S2 H2 n2 s2 rg2 q2 => ?_
      · cases d with
        | bl b => exact ⟨b, rfl⟩
        | _ => exact absurd rfl z
      · cases b with
        | true =>
          rw [if_pos rfl]
          refine ⟨fun σ' H' => ∃ ρ' Γ S, Nxs n0 H ρ H' ρ' ∧ StOk C H' ρ' S ∧ RepG C H' ρ' σ' Γ ∧ FinS C W n0 En ρ' H' (whileN (ev Φ G c) (exSs Φ Φf G fuel n0 bs) m Γ S), fun σ' H' z => ⟨m, Nat.lt_succ_self _, z⟩, ?_⟩
          refine ⟨ρ1, Γ1, S2, n1.len h0, s2, rg2, ?_⟩
          exact then_fin q2 rfl fun σ4 H4 ρ4 Γ4 S4 n4 s4 rg4 q4 => ⟨ρ4, Γ4, S4, (n1.trans (n2.s s2)).trans n4, s4, rg4, q4⟩
        | false =>
          rw [if_neg (by decide)]
          exact q2 σ1 H2 ρ1 (Nxs.refl _ _ _) s2 rg2
  · cases h
theorem OAt.repD {a : Addr} (hs : ∀ a, a ∈ ρ' → a ∈ ρ) (ha : a ∉ ρ') : ∀ {o : O}, OAt C H ρ a o → RepD C H ρ' (.ref a) (ofO o)
  | .lst _, ⟨xs, h, r⟩ => .lst ⟨h, ha⟩ (r.less hs)
  | .dic _, ⟨kvs, h, q, r⟩ => .dic h ha q (r.less hs)
  | .tab _, _ => .opq _
theorem frz_step {i : Nat} {Γ' : Gam} {S' : Sto} (st : StOk C H ρ S) (rg : RepG C H ρ σ Γ) (h : exS Φ Φf G fuel n0 (.frz i) Γ S = .next Γ' S') : ∃ ρ', Nxs n0 H ρ H ρ' ∧ StOk C H ρ' S' ∧ RepG C H ρ' σ Γ' := by
  rw [exS] at h
  split at h
  · rename_i k e0
    split at h
    · rename_i hk
      split at h
      · rename_i o e1
        cases h
        have hl := st.len
        have hs : ∀ a, a ∈ ρ.cut k → a ∈ ρ := fun a z => Rg.mem_cut z
        refine ⟨ρ.cut k, ⟨⟨fun _ _ h _ => h, fun a z => .inl (hs a z)⟩, fun a z => .inl (List.mem_of_mem_take z), rfl, ?_, fun _ h => h⟩, st.take k, ?_⟩
        · show (ρ.st.take k).take n0 = _
          rw [List.take_take, Nat.min_eq_left hk.2]
        · have hlt : k < ρ.st.length := by omega
          have hout : ρ.st[k] ∉ ρ.cut k := by
            have nd := st.nd
            intro z
            rcases List.mem_append.mp z with z | z
            · have z : ρ.st[k] ∈ ρ.st.take k := z
              obtain ⟨j, hj, e⟩ := List.mem_take_iff_getElem.mp z
              have := (List.nodup_append.mp nd).1
              have e3 := (List.pairwise_iff_getElem.mp this) j k (by omega) hlt (by omega)
              exact e3 e
            · exact (List.nodup_append.mp nd).2.2 _ (List.getElem_mem hlt) _ z rfl
          have hob := st.at_ k ρ.st[k] o (List.getElem?_eq_getElem hlt) e1
          refine ⟨by unfold thaw; rw [List.length_map]; exact rg.len, fun j d q => ?_⟩
          unfold thaw at q
          rw [List.getElem?_map] at q
          cases e2 : Γ[j]? with
          | none => rw [e2] at q; cases q
          | some w =>
            rw [e2] at q
            cases w with
            | none => cases q
            | some d0 =>
              obtain ⟨v, v1, v2⟩ := rg.at_ j d0 e2
              refine ⟨v, v1, ?_⟩
              rcases v2 with v2 | ⟨m, b, rfl, rfl, v3⟩
              · have hd : d = d0 := by
                  cases d0 with
                  | loc m => exact absurd rfl (v2.noloc (k := m))
                  | _ => cases q; rfl
                rw [hd]
                exact .inl (v2.less hs)
              · have q : some (if m = k then some (ofO o) else some (D.loc m)) = some (some d) := q
                have q := Option.some.inj q
                by_cases hm : m = k
                · rw [if_pos hm] at q
                  have q := Option.some.inj q
                  subst q
                  subst hm
                  rw [List.getElem?_eq_getElem hlt] at v3
                  cases v3
                  exact .inl (OAt.repD hs hout hob)
                · rw [if_neg hm] at q
                  have q := Option.some.inj q
                  subst q
                  refine .inr ⟨m, b, rfl, rfl, ?_⟩
                  show (ρ.st.take k)[m]? = some b
                  have := (List.getElem?_eq_some_iff.mp v3).1
                  rw [List.getElem?_take_of_lt (by omega)]
                  exact v3
      · cases h
    · cases h
  · cases h
theorem finS_any {W W' : WX} {r : SR} (hr : ∀ c d Γ S, r ≠ .ex c d Γ S) (h : FinS C W n0 En ρ H r) : FinS C W' n0 En ρ H r := by
  cases r with
  | next _ _ => exact h
  | ret _ _ _ => exact h
  | bad => exact h
  | ex c d Γ S => exact absurd rfl (hr c d Γ S)
theorem s_try (a : AtS X C Φ Φf G W) {x : Str} {body : List CS} (h : chkS X.N X.env.scope (.tryR x body) s = true)
    (ih : ∀ (W' : WX) (pn : List (Addr × Obj)) (xe : Value → Shared → Prop), AtS (X.tr pn xe) C Φ Φf G W' → ∀ ss, chkSs X.N X.env.scope body ss = true → PSs (X.tr pn xe) ss (tDS' C W' n0 (exSs Φ Φf G fuel n0 body))) :
    PS X s (tDS' C W n0 (exS Φ Φf G fuel n0 (.tryR x body))) := by
  rw [chkS.eq_def] at h
  dsimp only at h
  split at h
  · rename_i b y np b0 rest p1 p2
    obtain ⟨h, h3⟩ := and2 h
    obtain ⟨h1, h2⟩ := and2 h
    rw [decide_eq_true_iff] at h1
    subst h1
    obtain ⟨g1, g2, g3⟩ := gl_of h2
    cases hG : G y with
    | none => exact ps_never.mono fun En σ H ⟨ρ, Γ, S, _, _, _, q⟩ => by rw [exS, hG] at q; exact q
    | some d =>
      cases d with
      | fn z =>
        obtain ⟨u, v, hm, rv, rd⟩ := a.at_.glob y _ hG
        obtain ⟨f, e1, e2⟩ : ∃ f, v = .ref f ∧ u = .ref f := by
          have r := rd (fun _ => none) ⟨[], []⟩
          cases r with
          | fn hz => cases rv; exact ⟨_, rfl, rfl⟩
        subst e2
        refine (ps_try_only (X := X) (c := .ref f) (tb := fun W' => tDS' C W' n0 (exSs Φ Φf G fuel n0 body)) (ts := fun _ _ _ _ _ _ => False) (Wout := W) a.hs a.hf ⟨g1, g2, .inl hm⟩ a.at_.tk
          (fun W' pn xe tk po => ih W' pn xe ⟨⟨a.at_.hK, a.at_.hmg, a.at_.calm, a.at_.nd, a.at_.units, a.at_.blt, a.at_.glob, a.at_.fns, a.at_.gd, a.at_.tabs, a.at_.rm, a.at_.xcs, a.at_.sub, a.at_.fld, a.at_.sm, tk⟩, a.lam, a.fnsF, a.fn, a.kind, po, a.hs, a.hf⟩ b h3)
          (fun _ _ _ _ _ _ _ => ⟨fun _ _ _ _ _ _ z => z.elim⟩)).mono fun En σ H ⟨ρ, Γ, S, h0, st, rg, q⟩ => ?_
        refine ⟨ρ, Γ, S, h0, st, rg, ?_⟩
        rw [exS, hG] at q
        dsimp only at q
        cases e : exSs Φ Φf G fuel n0 body Γ S with
        | next Γ' S' => rw [e] at q; exact finS_any (by intro _ _ _ _ z; cases z) q
        | ret d S' fr => rw [e] at q; exact finS_any (by intro _ _ _ _ z; cases z) q
        | ex c d Γ' S' => rw [e] at q; exact q.elim
        | bad => rw [e] at q; exact q.elim
      | _ => exact ps_never.mono fun En σ H ⟨ρ, Γ, S, _, _, _, q⟩ => by rw [exS, hG] at q; exact q
  · cases h
theorem chkSs_cons {N : List Str} {sc : Scope} {c : CS} {cs : List CS} {ss : List Stmt} (hf : ∀ i, c ≠ .frz i) (h : chkSs N sc (c :: cs) ss = true) : ∃ s ss', ss = s :: ss' ∧ chkS N sc c s = true ∧ chkSs N sc cs ss' = true := by
  cases ss with
  | nil => cases c <;> first | (rw [chkSs.eq_def] at h; cases h; done) | (rename_i i; exact absurd rfl (hf i))
  | cons s ss => cases c <;> first | (rw [chkSs.eq_def] at h; exact ⟨s, ss, rfl, (and2 h).1, (and2 h).2⟩) | (rename_i i; exact absurd rfl (hf i))
mutual
theorem soundS : ∀ (c : CS) (X : Cx) (W : WX) (a : AtS X C Φ Φf G W) (s : Stmt), chkS X.N X.env.scope c s = true → PS X s (tDS' C W n0 (exS Φ Φf G fuel n0 c))
  | .set tg e, X, W, a, s, h => weak (s_set a h)
  | .par is es, X, W, a, s, h => s_par a h
  | .own i e, X, W, a, s, h => s_own a h
  | .app i e, X, W, a, s, h => weak (s_app a h)
  | .putL i k e, X, W, a, s, h => weak (s_putL a h)
  | .putD i k e, X, W, a, s, h => weak (s_putD a h)
  | .exp e, X, W, a, s, h => weak (s_exp a h)
  | .ret e, X, W, a, s, h => weak (s_ret a h)
  | .retF e, X, W, a, s, h => weak (s_retF a h)
  | .ite c p q, X, W, a, s, h => s_ite a h (fun ss => soundSs p X W a ss) (fun ss => soundSs q X W a ss)
  | .loop tg ik ia b, X, W, a, s, h => s_loop a h (fun ss => soundSs b X W a ss)
  | .while c b, X, W, a, s, h => s_while a h (fun ss => soundSs b X W a ss)
  | .never, X, W, a, s, h => ps_never.mono fun En σ H ⟨ρ, Γ, S, _, _, _, q⟩ => by rw [exS] at q; exact q
  | .pass, X, W, a, s, h => by
    rw [chkS.eq_def] at h
    dsimp only at h
    split at h
    · refine ps_pass.mono fun En σ H ⟨ρ, Γ, S, _, st, rg, q⟩ => ?_
      rw [exS] at q
      exact q σ H ρ (Nxs.refl _ _ _) st rg
    · cases h
  | .raise c e, X, W, a, s, h => weak (s_raise a h)
  | .tryR x body, X, W, a, s, h => s_try a h fun W' pn xe a' ss hh => soundSs body (X.tr pn xe) W' a' ss hh
  | .frz i, X, W, a, s, h => by cases h
theorem soundSs : ∀ (cs : List CS) (X : Cx) (W : WX) (a : AtS X C Φ Φf G W) (ss : List Stmt), chkSs X.N X.env.scope cs ss = true → PSs X ss (tDS' C W n0 (exSs Φ Φf G fuel n0 cs))
  | [], X, W, a, ss, h => by
    rw [chkSs.eq_def] at h
    cases ss with
    | cons _ _ => cases h
    | nil =>
      refine pss_nil.mono fun En σ H ⟨ρ, Γ, S, _, st, rg, q⟩ => ?_
      rw [exSs] at q
      exact q σ H ρ (Nxs.refl _ _ _) st rg
  | c :: cs, X, W, a, ss, h => by
    by_cases hf : ∃ i, c = .frz i
    · obtain ⟨i, rfl⟩ := hf
      rw [chkSs.eq_def] at h
      refine (soundSs cs X W a ss h).mono fun En σ H ⟨ρ, Γ, S, h0, st, rg, q⟩ => ?_
      rw [exSs] at q
      cases e : exS Φ Φf G fuel n0 (.frz i) Γ S with
      | next Γ' S' =>
        rw [e] at q
        obtain ⟨ρ', n, s, g⟩ := frz_step st rg e
        exact ⟨ρ', Γ', S', n.len h0, s, g, FinS.nxs n q⟩
      | bad => rw [e] at q; exact q.elim
      | ret d S1 fr => rw [exS] at e; split at e <;> (first | cases e | (split at e <;> (first | cases e | (split at e <;> cases e))))
      | ex c d Γ1 S1 => rw [exS] at e; split at e <;> (first | cases e | (split at e <;> (first | cases e | (split at e <;> cases e))))
    · obtain ⟨s, ss, rfl, h1, h2⟩ := chkSs_cons (fun i z => hf ⟨i, z⟩) h
      refine (pss_cons (soundS c X W a s h1) (soundSs cs X W a ss h2)).mono fun En σ H ⟨ρ, Γ, S, h0, st, rg, q⟩ => ?_
      rw [exSs] at q
      exact ⟨ρ, Γ, S, h0, st, rg, then_fin q rfl fun σ' H' ρ' Γ' S' n s g q => ⟨ρ', Γ', S', n.len h0, s, g, q⟩⟩
end
end
end EK

set_option Elab.async false
set_option linter.all false
set_option maxRecDepth 100000
set_option maxHeartbeats 4000000
namespace EK
open PySem L2 PySem.Spec PyProof.Rows
/-! ### a def and what it does -/
def outD (n0 : Nat) (S : Sto) : D → D
  | .loc k => if k < n0 then .loc k else match S[k]? with
    | some o => ofO o
    | none => .non
  | d => d
def outR (n0 : Nat) : SR → R
  | .next _ S => .ok .non (S.take n0)
  | .ret d S _ => .ok (outD n0 S d) (S.take n0)
  | .ex c d _ S => .ex c d (S.take n0)
  | .bad => .bad
def outF (n0 : Nat) : SR → R
  | .ret d S true => .ok d (S.take n0)
  | .ex c d _ S => .ex c d (S.take n0)
  | _ => .bad
@[simp] def gam0 (m : Nat) (ds : List D) : Gam := ds.map some ++ List.replicate (m - ds.length) none
@[simp] def fsem (Φ Φf : Str → Option Fsem) (G : Str → Option D) (fuel np m : Nat) (body : List CS) : Fsem := fun ds S =>
  if ds.length = np then outR S.length (exSs Φ Φf G fuel S.length body (gam0 m ds) S) else .bad
@[simp] def fsemF (Φ Φf : Str → Option Fsem) (G : Str → Option D) (fuel np m : Nat) (body : List CS) : Fsem := fun ds S =>
  if ds.length = np then outF S.length (exSs Φ Φf G fuel S.length body (gam0 m ds) S) else .bad
/-- what a def's table of code objects is, where the def has lambdas -/
def TabH (C : Ct) (base : Heap) (qual : Str) (scope : Scope) (f : Addr) : Prop := ∀ P q, C.tb scope.names = some (P, q) → q = (qual ++ ".<locals>.") ++ "<lambda>" ∧ ∃ c, (∀ oc od osl fd, C.K.lookup f = some ⟨oc, od, .func fd, osl⟩ → fd.code = .ref c) ∧ LamX.TabB base C.mg c P
theorem TabH.none {C : Ct} {base : Heap} {qual : Str} {scope : Scope} {f : Addr} (h : C.tb scope.names = none) : TabH C base qual scope f := fun P q e => by rw [h] at e; cases e
theorem OutP.mono {P : Program} {w : World} {C : Ct} {base : Heap} {j k : Nat} {Fw : Fsem} (o : OutP P w C base j Fw) (h : j ≤ k) : OutP P w C base k Fw := by
  obtain ⟨g, fd, h1, h2, h3, go⟩ := o.ex
  exact ⟨g, fd, h1, h2, h3, fun m A outer s H args f ρ S R0 Q E hk => go m A outer s H args f ρ S R0 Q E (Nat.le_trans h hk)⟩
structure Lev (P : Program) (w : World) (C : Ct) (base : Heap) (k : Nat) (Φ Φf : Str → Option Fsem) (G : Str → Option D) : Prop where
  kpos : 1 ≤ k
  tabs : Tabs C.K w C
  xcs : ∀ c r Ca, xcT.lookup c = some r → C.mg c = some (.ref Ca) → XcK P C.K Ca r.1
  sub : SubA C.K C.mg
  fld : C.fld = fldT
  sm : SmK C.K
  oc : ∀ Fo Fw, Φ "_law_outcome" = some Fo → Φ "_law_word" = some Fw → OutP P w C base k Fw
  blt : ∀ x, x ∈ bltNames → C.mg x = none
  glob : ∀ x d, G x = some d → ∃ u v, C.mg x = some u ∧ RelV v u ∧ ∀ H ρ, RepD C H ρ v d
  fns : ∀ x F, Φ x = some F → ∃ (f : Addr) (fd : FuncData) (ps : List Str), C.mg x = some (.ref f) ∧ PySem.W.keepIn C.K (.ref f) = true ∧ BindsX C.K fd ps x ∧ FnG P w C.K C.mg base (L2.CX P w) k f fd ps (spD C F)
  fnsF : ∀ x F, Φf x = some F → ∃ (f : Addr) (fd : FuncData) (ps : List Str), C.mg x = some (.ref f) ∧ PySem.W.keepIn C.K (.ref f) = true ∧ Binds C.K fd ps [] ∧ FnG P w C.K C.mg base (L2.CX P w) k f fd ps (spF C F)
section
variable {P : Program} {w : World} {C : Ct} {base : Heap} {k : Nat} {Φ Φf : Str → Option Fsem} {G : Str → Option D} {H H' : Hp} {ρ ρ' : Rg} {S S' : Sto}
theorem paired_len {α β : Type} {F : α → β → Prop} : ∀ {xs : List α} {ys : List β}, Paired F xs ys → xs.length = ys.length
  | _, _, .nil => rfl
  | _, _, .cons _ r => congrArg Nat.succ (paired_len r)
theorem paired_get {α β : Type} {F : α → β → Prop} : ∀ {xs : List α} {ys : List β} {i : Nat} {y : β}, Paired F xs ys → ys[i]? = some y → ∃ x, xs[i]? = some x ∧ F x y
  | _, _, _, _, .nil, h => by simp at h
  | _, _, 0, _, .cons a _, h => by
    simp at h; subst h
    exact ⟨_, rfl, a⟩
  | _, _, i + 1, _, .cons _ r, h => by
    simp at h
    obtain ⟨x, e, q⟩ := paired_get r h
    exact ⟨x, by simpa using e, q⟩
theorem repG_start {N : List Str} {vs : List V} {ds : List D} (h : Paired (Rep C H ρ) vs ds) : RepG C H ρ (L2.start N vs) (gam0 N.length ds) := by
  have hl := paired_len h
  unfold L2.start gam0
  refine ⟨by simp [hl], fun i d e => ?_⟩
  by_cases hi : i < ds.length
  · rw [List.getElem?_append_left (by simpa using hi), List.getElem?_map] at e
    rw [List.getElem?_append_left (by simpa [hl] using hi), List.getElem?_map]
    cases e1 : ds[i]? with
    | none => rw [e1] at e; cases e
    | some d' =>
      rw [e1] at e
      cases e
      obtain ⟨x, e2, q⟩ := paired_get h e1
      exact ⟨x, by rw [e2]; rfl, q⟩
  · rw [List.getElem?_append_right (by simpa using Nat.le_of_not_lt hi), List.getElem?_replicate] at e
    split at e <;> cases e
theorem Nxs.cut {n0 : Nat} (n : Nxs n0 H ρ H' ρ') (h0 : n0 = ρ.st.length) : ρ'.cut n0 = ρ := by
  have e1 := n.pre
  subst h0
  rw [List.take_length] at e1
  have e2 := n.ex
  unfold Rg.cut
  rw [e1, e2]
theorem Nxs.back {n0 : Nat} (n : Nxs n0 H ρ H' ρ') : Nx H ρ H' ρ := ⟨n.nx.kp, fun _ z => .inl z⟩
theorem cut_loc {n0 k : Nat} (s : StOk C H ρ S) {a : Addr} (hk : n0 ≤ k) (h : ρ.st[k]? = some a) : a ∉ ρ.cut n0 := by
  intro z
  obtain ⟨hlt, rfl⟩ := List.getElem?_eq_some_iff.mp h
  rcases List.mem_append.mp z with z | z
  · have z : ρ.st[k] ∈ ρ.st.take n0 := z
    obtain ⟨j, hj, e⟩ := List.mem_take_iff_getElem.mp z
    have := (List.nodup_append.mp s.nd).1
    exact (List.pairwise_iff_getElem.mp this) j k (by omega) hlt (by omega) e
  · exact (List.nodup_append.mp s.nd).2.2 _ (List.getElem_mem hlt) _ z rfl
/-- what is handed back, seen by the caller -/
theorem out_rep {n0 : Nat} {v : V} {d : D} (s : StOk C H ρ S) (r : Rep C H ρ v d) : Rep C H (ρ.cut n0) v (outD n0 S d) := by
  have hs : ∀ a, a ∈ ρ.cut n0 → a ∈ ρ := fun a z => Rg.mem_cut z
  rcases r with r | ⟨k, a, rfl, rfl, e⟩
  · have : outD n0 S d = d := by
      cases d with
      | loc m => exact absurd rfl (r.noloc (k := m))
      | _ => rfl
    rw [this]
    exact .inl (r.less hs)
  · show Rep C H (ρ.cut n0) (.ref a) (if k < n0 then .loc k else match S[k]? with | some o => ofO o | none => .non)
    by_cases hk : k < n0
    · rw [if_pos hk]
      refine .inr ⟨k, a, rfl, rfl, ?_⟩
      show (ρ.st.take n0)[k]? = some a
      rw [List.getElem?_take_of_lt hk]
      exact e
    · rw [if_neg hk]
      have hlt := (List.getElem?_eq_some_iff.mp e).1
      have hl := s.len
      have e2 : S[k]? = some S[k] := List.getElem?_eq_getElem (by omega)
      rw [e2]
      exact .inl (OAt.repD hs (cut_loc s (by omega) e) (s.at_ k a _ e e2))
theorem New.cut {n0 : Nat} {H0 : Hp} {v : V} {d : D} (h : New C H0 H ρ S v d) : New C H0 H (ρ.cut n0) (S.take n0) v d := by
  obtain ⟨p, o, e1, e2, e3, e4, e5⟩ := h
  exact ⟨p, o, e1, e2, e3, e4.take n0, e5.less fun a z => Rg.mem_cut (ρ := ρ.keep p) (n := n0) z⟩
theorem lamF_of (l : Lev P w C base k Φ Φf G) {N : List Str} {qual : Str} {scope : Scope} {f : Addr} {fd : FuncData} {cdv : Value} {A : Around} {outer : List Env} {s : Shared} {H : Hp} {E : XK} (th : TabH C base qual scope f)
    (lk : ∃ oc od osl, C.K.lookup f = some ⟨oc, od, .func fd, osl⟩ ∧ fd.code = cdv) (hr : Rm (k + 2) (A.deeper (envOfC qual scope s.heap.objs.size f cdv))) :
    LamF (cxOf (L2.CX P w) P w C.K C.mg base N qual scope f cdv A outer s H E) C Φ := by
  intro P' q e
  obtain ⟨e1, c, hc, tb⟩ := th P' q e
  obtain ⟨oc, od, osl, lk, rfl⟩ := lk
  exact ⟨e1, c, k, l.kpos, hc oc od osl fd lk, tb, hr, l.fns, l.oc⟩
theorem atS (l : Lev P w C base k Φ Φf G) {N ps : List Str} {qual : Str} {scope : Scope} {f : Addr} {cdv : Value} {A : Around} {outer : List Env} {s : Shared} {H : Hp} {E : XK} (sc : FnScope N ps scope) (hr : Rm (k + 2) (A.deeper (envOfC qual scope s.heap.objs.size f cdv)))
    (lf : LamF (cxOf (L2.CX P w) P w C.K C.mg base N qual scope f cdv A outer s H E) C Φ) : AtS (cxOf (L2.CX P w) P w C.K C.mg base N qual scope f cdv A outer s H E) C Φ Φf G (fun cls d _ H => E cls d H) := by
  have hk : Rm k (A.deeper (envOfC qual scope s.heap.objs.size f cdv)) := hr.mono (by omega)
  refine ⟨⟨rfl, rfl, rfl, sc.nd, ?_, l.blt, l.glob, fun x F h => ?_, hr.gd, l.tabs, hr.mono (by omega), l.xcs, l.sub, l.fld, l.sm, takes_of rfl rfl rfl rfl⟩, lf, fun x F h => ?_, fun _ => rfl, sc.kind, passes_of rfl, rfl, rfl⟩
  · have := hr.rm.un
    show (A.deeper (envOfC qual scope s.heap.objs.size f cdv)).units + 65 < cLine
    omega
  · obtain ⟨f, fd, ps, h1, h2, h3, h4⟩ := l.fns x F h
    exact ⟨f, fd, ps, k, h1, h2, h3, h4, hk⟩
  · obtain ⟨f, fd, ps, h1, h2, h3, h4⟩ := l.fnsF x F h
    exact ⟨f, fd, ps, k, h1, h2, h3, h4, hk⟩
/-- THE RULE for a def -/
theorem fn_ok (l : Lev P w C base k Φ Φf G) {N ps : List Str} {x qual : Str} {params : Arguments} {body : List Stmt} {scope : Scope} {f : Addr} {fd : FuncData} (F : FunD C.K x qual params body scope [] [] f fd) (sc : FnScope N ps scope) (th : TabH C base qual scope f) (fuel : Nat) {cs : List CS} (h : chkSs N scope cs body = true) :
    FnG P w C.K C.mg base (L2.CX P w) (k + 3) f fd ps (spD C (fsem Φ Φf G fuel ps.length N.length cs)) := by
  refine F.okG (k := k + 2) sc (fun vs H Q E z => ?_) fun cdv A outer s H vs Q E lk hr z => ?_
  · obtain ⟨ds, ρ, S, st, pa, q⟩ := z
    unfold fsem at q
    split at q
    · rename_i e; rw [paired_len pa, e]
    · exact q.elim
  · obtain ⟨ds, ρ, S, st, pa, q⟩ := z
    refine ⟨_, soundSs (n0 := S.length) (fuel := fuel) cs _ _ (atS l sc hr (lamF_of l th lk hr)) body h, ρ, gam0 N.length ds, S, Nat.le_of_eq st.len.symm, st, repG_start pa, ?_⟩
    unfold fsem at q
    split at q
    · cases e : exSs Φ Φf G fuel S.length cs (gam0 N.length ds) S with
      | bad => rw [e] at q; exact q
      | next Γ' S' =>
        rw [e] at q
        intro σ' H' ρ' n s' g
        have hc := n.cut st.len.symm
        exact q .non H' n.back (by rw [← hc]; exact s'.take _) (.inl .non)
      | ret d S' fr =>
        rw [e] at q
        intro v H' ρ' n s' r _
        have hc := n.cut st.len.symm
        exact q v H' n.back (by rw [← hc]; exact s'.take _) (by rw [← hc]; exact out_rep s' r)
      | ex c d Γ' S' =>
        rw [e] at q
        intro Ca dd v σ' H' ρ' m n s' g w nd r
        have hc := n.cut st.len.symm
        exact q Ca dd v H' m n.back (by rw [← hc]; exact s'.take _) w (by rw [← hc]; exact fun z => nd (Rg.mem_cut z)) (by rw [← hc]; exact r.less fun a z => Rg.mem_cut z)
    · exact q.elim
/-- .. that hands back a new object -/
theorem fn_okF (l : Lev P w C base k Φ Φf G) {N ps : List Str} {x qual : Str} {params : Arguments} {body : List Stmt} {scope : Scope} {f : Addr} {fd : FuncData} (F : FunD C.K x qual params body scope [] [] f fd) (sc : FnScope N ps scope) (th : TabH C base qual scope f) (fuel : Nat) {cs : List CS} (h : chkSs N scope cs body = true) :
    FnG P w C.K C.mg base (L2.CX P w) (k + 3) f fd ps (spF C (fsemF Φ Φf G fuel ps.length N.length cs)) := by
  refine F.okG (k := k + 2) sc (fun vs H Q E z => ?_) fun cdv A outer s H vs Q E lk hr z => ?_
  · obtain ⟨ds, ρ, S, st, pa, q⟩ := z
    unfold fsemF at q
    split at q
    · rename_i e; rw [paired_len pa, e]
    · exact q.elim
  · obtain ⟨ds, ρ, S, st, pa, q⟩ := z
    refine ⟨_, soundSs (n0 := S.length) (fuel := fuel) cs _ _ (atS l sc hr (lamF_of l th lk hr)) body h, ρ, gam0 N.length ds, S, Nat.le_of_eq st.len.symm, st, repG_start pa, ?_⟩
    unfold fsemF at q
    split at q
    · cases e : exSs Φ Φf G fuel S.length cs (gam0 N.length ds) S with
      | bad => rw [e] at q; exact q
      | next Γ' S' => rw [e] at q; exact q.elim
      | ret d S' fr =>
        rw [e] at q
        cases fr with
        | false => exact q.elim
        | true =>
          intro v H' ρ' n s' r nw
          have hc := n.cut st.len.symm
          have nw := (nw rfl).cut (n0 := S.length)
          rw [hc] at nw
          refine q v H' n.back (by rw [← hc]; exact s'.take _) ?_ nw
          rcases r with r | ⟨k, a, rfl, rfl, _⟩
          · rw [← hc]; exact r.less fun a z => Rg.mem_cut z
          · obtain ⟨_, _, _, z, _⟩ := nw
            cases z
      | ex c d Γ' S' =>
        rw [e] at q
        intro Ca dd v σ' H' ρ' m n s' g w nd r
        have hc := n.cut st.len.symm
        exact q Ca dd v H' m n.back (by rw [← hc]; exact s'.take _) w (by rw [← hc]; exact fun z => nd (Rg.mem_cut z)) (by rw [← hc]; exact r.less fun a z => Rg.mem_cut z)
    · exact q.elim
/-! ### defs, one behind another -/
def put (Φ : Str → Option Fsem) (x : Str) (F : Fsem) : Str → Option Fsem := fun y => if y = x then some F else Φ y
/-- by names, where the table has it -/
theorem FunD.bindsX {K : PySem.W.Frag} {x qual : Str} {params : Arguments} {body : List Stmt} {scope : Scope} {f : Addr} {fd : FuncData} {ps : List Str} (F : FunD K x qual params body scope [] [] f fd) (b : Binds K fd ps [])
    (h : ∀ ks, kwT.lookup x = some ks → ∀ (kV doc pm : Value) (an : Option Addr) (cdv ct : Value) (us : List Value), us.length = ps.length → bindArgs (PySem.W.fnOf x qual params body scope .none kV doc pm an cdv ct) ⟨[], ks.zip us⟩ = pure (ps.zip us)) : BindsX K fd ps x := by
  obtain ⟨oc, od, dV, kV, doc, pm, an, cdv, ct, osl, rfl, lk, hcd, hD, hK⟩ := F.ex
  rcases hD with ⟨_, rfl⟩ | ⟨e, _⟩
  · exact ⟨b, fun ks hk s ws _ hl => .of_eq (h ks hk kV doc pm an cdv ct ws hl)⟩
  · exact absurd rfl e
theorem FunD.bindsX0 {K : PySem.W.Frag} {fd : FuncData} {ps : List Str} {x : Str} (b : Binds K fd ps []) (h : kwT.lookup x = none) : BindsX K fd ps x := ⟨b, fun ks hk => by rw [h] at hk; cases hk⟩
theorem Lev.put (l : Lev P w C base k Φ Φf G) {N ps : List Str} {x qual : Str} {params : Arguments} {body : List Stmt} {scope : Scope} {f : Addr} {fd : FuncData} (F : FunD C.K x qual params body scope [] [] f fd) (hm : C.mg x = some (.ref f)) (hb : BindsX C.K fd ps x) (sc : FnScope N ps scope) (th : TabH C base qual scope f) (hx : x ≠ "_law_outcome" ∧ (x = "_law_word" → Φ "_law_outcome" = none)) (fuel : Nat) (cs : List CS) (h : chkSs N scope cs body = true) :
    Lev P w C base (k + 3) (EK.put Φ x (fsem Φ Φf G fuel ps.length N.length cs)) Φf G := by
  refine ⟨Nat.le_trans l.kpos (by omega), l.tabs, l.xcs, l.sub, l.fld, l.sm, fun Fo Fw e1 e2 => ?_, l.blt, l.glob, fun y F' e => ?_, fun y F' e => ?_⟩
  · unfold EK.put at e1 e2
    rw [if_neg (Ne.symm hx.1)] at e1
    split at e2
    · rename_i hw
      rw [hx.2 hw.symm] at e1
      cases e1
    · exact (l.oc Fo Fw e1 e2).mono (by omega)
  · unfold EK.put at e
    split at e
    · rename_i hy
      cases e
      subst hy
      exact ⟨f, fd, ps, hm, F.kp, hb, fn_ok l F sc th fuel h⟩
    · obtain ⟨f, fd, ps, h1, h2, h3, h4⟩ := l.fns y F' e
      exact ⟨f, fd, ps, h1, h2, h3, h4.mono (by omega)⟩
  · obtain ⟨f, fd, ps, h1, h2, h3, h4⟩ := l.fnsF y F' e
    exact ⟨f, fd, ps, h1, h2, h3, h4.mono (by omega)⟩
theorem Lev.putF (l : Lev P w C base k Φ Φf G) {N ps : List Str} {x qual : Str} {params : Arguments} {body : List Stmt} {scope : Scope} {f : Addr} {fd : FuncData} (F : FunD C.K x qual params body scope [] [] f fd) (hm : C.mg x = some (.ref f)) (hb : Binds C.K fd ps []) (sc : FnScope N ps scope) (th : TabH C base qual scope f) (fuel : Nat) (cs : List CS) (h : chkSs N scope cs body = true) :
    Lev P w C base (k + 3) Φ (EK.put Φf x (fsemF Φ Φf G fuel ps.length N.length cs)) G := by
  refine ⟨Nat.le_trans l.kpos (by omega), l.tabs, l.xcs, l.sub, l.fld, l.sm, fun Fo Fw e1 e2 => (l.oc Fo Fw e1 e2).mono (by omega), l.blt, l.glob, fun y F' e => ?_, fun y F' e => ?_⟩
  · obtain ⟨f, fd, ps, h1, h2, h3, h4⟩ := l.fns y F' e
    exact ⟨f, fd, ps, h1, h2, h3, h4.mono (by omega)⟩
  · unfold EK.put at e
    split at e
    · rename_i hy
      cases e
      subst hy
      exact ⟨f, fd, ps, hm, F.kp, hb, fn_okF l F sc th fuel h⟩
    · obtain ⟨f, fd, ps, h1, h2, h3, h4⟩ := l.fnsF y F' e
      exact ⟨f, fd, ps, h1, h2, h3, h4.mono (by omega)⟩
theorem repA_ints : ∀ ns : List Int, RepA C H ρ (ns.map V.int) (ns.map D.int)
  | [] => .nil
  | n :: ns => .cons (.int n) (repA_ints ns)
theorem free_of {h : Heap} {mg : Str → Option Value} {K : PySem.W.Frag} {fa1 fa3 : List He.Fa} {fn : List He.DefD} (X : K.In h) (Gx : h.Ns mainGlobals mg) (c : He.SaysD (fa1 ++ (bltNames.map He.Fa.free ++ fa3)) fn K) (x : Str) (hx : x ∈ bltNames) : mg x = none := by
  have hm : He.Fa.free x ∈ fa1 ++ (bltNames.map He.Fa.free ++ fa3) := List.mem_append_right _ (List.mem_append_left _ (List.mem_map_of_mem hx))
  obtain ⟨i, e⟩ := List.mem_iff_getElem?.mp hm
  exact He.free_ok X Gx (c.fact i e)
/-- a def that lets nothing out -/
theorem FnG.calm {F : Fsem} {f : Addr} {fd : FuncData} {ps : List Str} (h : FnG P w C.K C.mg base (L2.CX P w) k f fd ps (spD C F)) : FnG P w C.K C.mg base CX0 k f fd ps (fun vs H Q _ => spD C F vs H Q fun _ _ _ => False) := by
  refine ⟨fun vs H Q E z => h.lng vs H Q _ z, fun A outer s H args us vs Q E hr he hb hv z => codeAny_mono (h.go A outer s H args us vs Q _ hr he hb hv z) fun r s' q => ?_⟩
  match r, q with
  | .ok (.ret u), q => exact q
  | .error e, q =>
    obtain ⟨_, _, _, _, _, _, _, _, _, _, _, _, z⟩ := q
    exact z.elim
/-- the law's def answers True -/
theorem law_sp {F : Fsem} {ns : List Int} (hF : ∃ S, F [.frz (ns.map .int)] [] = .ok (.bl true) S) {H : Hp} {a : Addr} (hS : SqL C.K H a (ns.map V.int)) : spD C F [.ref a] H (fun v _ => v = .bl true) fun _ _ _ => False := by
  obtain ⟨S, e⟩ := hF
  refine ⟨[.frz (ns.map .int)], ⟨[], []⟩, [], ⟨rfl, List.nodup_nil, fun k a o h => by simp at h, fun a h => by cases h⟩, .cons (.inl (.frz ?_ (repA_ints ns))) .nil, ?_⟩
  · rcases hS with h | h
    · exact .inl ⟨h, fun z => by cases z⟩
    · exact .inr h
  · rw [e]
    intro v H' n s r
    rcases r with r | ⟨_, _, z, _⟩
    · cases r; rfl
    · cases z
end
end EK

set_option Elab.async false
set_option linter.all false
set_option maxRecDepth 100000
set_option maxHeartbeats 4000000
namespace EK
open PySem L2 PySem.Spec PyProof.Rows LamX
/-! ### _law_outcome -/
def N4 : List Str := ["_law_call", "_law_found", "_law_error", "e"]
def o1 : CS := .set (.many [1, 2]) (.tup [.con .non, .con .non])
def o3 : CS := .ret (.ite (.cmp .Is (.var 2) (.con .non)) (.lst [.var 1]) (.call "_law_word" [.var 2]))
def lcl (sc : Scope) (x : Str) : Bool := decide (sc.names.lookup x = some .local)
def outChk (sc : Scope) : List Stmt → Bool
  | [s1, .Try [.Assign [.Name y1 _] (.Call (.Name x1 _) [] [] _) _] [.ExceptHandler (some (.Tuple [.Name a _, .Name b _, .Name c _] _ _)) (some n) [.Assign [.Name y2 _] (.Name n2 _) _] _] [] [] _, s3] =>
    chkS N4 sc o1 s1 && chkS N4 sc o3 s3 && decide (y1 = ("_law_found" : Str)) && decide (x1 = ("_law_call" : Str)) && decide (a = ("EvenError" : Str)) && decide (b = ("Nothing" : Str)) && decide (c = ("TooLong" : Str)) && decide (n = ("e" : Str)) && decide (n2 = ("e" : Str)) && decide (y2 = ("_law_error" : Str)) &&
      glB sc a && glB sc b && glB sc c && lcl sc "_law_call" && lcl sc "_law_found" && lcl sc "_law_error" && lcl sc "e"
  | _ => false
theorem rg_eq {C : Ct} {H H' : Hp} {ρ ρ' : Rg} {S' : Sto} {n0 : Nat} (n : Nxs n0 H ρ H' ρ') (h0 : n0 = ρ.st.length) (st : StOk C H' ρ' S') (hl : S'.length = n0) : ρ' = ρ := by
  have e1 := n.cut h0
  have e2 : ρ'.cut n0 = ρ' := by
    unfold Rg.cut
    rw [List.take_of_length_le (by rw [st.len, hl]; exact Nat.le_refl _)]
  rw [← e2]; exact e1
section
variable {P : Program} {w : World} {C : Ct} {base : Heap} {k : Nat} {Φ Φf : Str → Option Fsem} {G : Str → Option D}
theorem o1_ev {a : D} {S : Sto} {fuel n0 : Nat} : exS Φ Φf G fuel n0 o1 [some a, none, none, none] S = .next [some a, some .non, some .non, none] S := by
  have z : 2 ≤ szL := by decide
  simp [o1, R.go, RA.bind, noLoc, z]
theorem o3_ok {a d : D} {S : Sto} {fuel n0 : Nat} (h : noLoc d = true) : exS Φ Φf G fuel n0 o3 [some a, some d, some .non, none] S = .ret (.lst [d]) S false := by
  have z : 1 ≤ szL := by decide
  simp [o3, R.go, R.bind, RA.bind, R.lift, vw, cmpD, isNB, h, z]
theorem o3_ex {Fw : Fsem} (hw : Φ "_law_word" = some Fw) {a d x : D} {c : Str} {S : Sto} {fuel n0 : Nat} {Γ : Gam} (hΓ : Γ = [some a, some x, some (.exc c [d]), none]) : exS Φ Φf G fuel n0 o3 Γ S = (Fw [.exc c [d]] S).go Γ fun d S => .ret d S false := by
  subst hΓ
  simp [o3, R.go, R.bind, RA.bind, R.lift, vw, cmpD, isNB, hw]
theorem out_ok (l : Lev P w C base k Φ Φf G) {Fw : Fsem} (hw : Φ "_law_word" = some Fw) {qual : Str} {params : Arguments} {body : List Stmt} {scope : Scope} {g : Addr} {fd : FuncData} (F : FunD C.K "_law_outcome" qual params body scope [] [] g fd) (hm : C.mg "_law_outcome" = some (.ref g)) (hb : Binds C.K fd ["_law_call"] [])
    (sc : FnScope N4 ["_law_call"] scope) (tbn : C.tb scope.names = none) (hc : outChk scope body = true) {c1 c2 c3 : Addr} (m1 : C.mg "EvenError" = some (.ref c1)) (m2 : C.mg "Nothing" = some (.ref c2)) (m3 : C.mg "TooLong" = some (.ref c3))
    (hex : ∀ c r Ca, xcT.lookup c = some r → C.mg c = some (.ref Ca) → PySem.W.exmAny C.K (.ref Ca) [.ref c1, .ref c2, .ref c3] = some true) : OutP P w C base (k + 2) Fw := by
  unfold outChk at hc
  split at hc
  · rename_i s1 y1 q1 x1 q2 q3 q4 a q5 b q6 c q7 q8 q9 n y2 q10 n2 q11 q12 q13 q14 s3
    obtain ⟨hc, v4⟩ := and2 hc
    obtain ⟨hc, v3⟩ := and2 hc
    obtain ⟨hc, v2⟩ := and2 hc
    obtain ⟨hc, v1⟩ := and2 hc
    obtain ⟨hc, g3⟩ := and2 hc
    obtain ⟨hc, g2⟩ := and2 hc
    obtain ⟨hc, g1⟩ := and2 hc
    obtain ⟨hc, z8⟩ := and2 hc
    obtain ⟨hc, z7⟩ := and2 hc
    obtain ⟨hc, z6⟩ := and2 hc
    obtain ⟨hc, z5⟩ := and2 hc
    obtain ⟨hc, z4⟩ := and2 hc
    obtain ⟨hc, z3⟩ := and2 hc
    obtain ⟨hc, z2⟩ := and2 hc
    obtain ⟨hc, z1⟩ := and2 hc
    obtain ⟨k1, k3⟩ := and2 hc
    rw [decide_eq_true_iff] at z1 z2 z3 z4 z5 z6 z7 z8
    subst z1 z2 z3 z4 z5 z6 z7 z8
    unfold lcl at v1 v2 v3 v4
    rw [decide_eq_true_iff] at v1 v2 v3 v4
    refine ⟨g, fd, hm, F.kp, hb, fun m A outer s H args f ρ S R0 Q E hk hr e0 bi hlam hfn hfr th st fin => ?_⟩
    refine F.runS (Xc := L2.CX P w) (k := m) sc hr e0 bi (vs := [.ref f]) (us := [.ref f]) (.cons rfl .nil) rfl fun cdv lk hr2 => ?_
    have hr3 : Rm (k + 2) (A.deeper (envOfC qual scope s.heap.objs.size g cdv)) := hr2.mono hk
    have a0 := atS l sc (E := E) (outer := outer) (H := H) hr3 (lamF_of l (TabH.none tbn) lk hr3)
    generalize hX : cxOf (L2.CX P w) P w C.K C.mg base N4 qual scope g cdv A outer s H E = X at a0
    have xN : X.N = N4 := by subst hX; rfl
    have xsc : X.env.scope = scope := by subst hX; rfl
    have xs0 : X.s_0 = s := by subst hX; rfl
    have xH0 : X.H_0 = H := by subst hX; rfl
    have xou : X.outer = outer := by subst hX; rfl
    have xex : X.ex = [] := by subst hX; rfl
    have xP : X.prog = P := by subst hX; rfl
    have xw : X.w = w := by subst hX; rfl
    have xA : X.A = A.deeper (envOfC qual scope s.heap.objs.size g cdv) := by subst hX; rfl
    have xK : X.K = C.K := a0.at_.hK
    have xmg : X.mg = C.mg := a0.at_.hmg
    have xb : X.base = base := by subst hX; rfl
    obtain ⟨g1, d1, _⟩ := gl_of (X := X) (x := "EvenError") (by rw [xsc]; exact g1)
    obtain ⟨g2, d2, _⟩ := gl_of (X := X) (x := "Nothing") (by rw [xsc]; exact g2)
    obtain ⟨g3, d3, _⟩ := gl_of (X := X) (x := "TooLong") (by rw [xsc]; exact g3)
    -- the call of the lambda
    have call : ∀ (W : WX) (pn : List (Addr × Obj)) (xe : Value → Shared → Prop), Takes (X.tr pn xe) W → PE (X.tr pn xe) (.Call (.Name "_law_call" q2) [] [] q3)
        (fun σ HZ Qv => σ[0]? = some (some (.ref f)) ∧ Nx H ρ HZ ρ ∧ StOk C HZ ρ S ∧ Fin C (fun c d _ H => W c d σ H) ρ [] HZ Qv R0) := fun W pn xe tk => by
      refine ⟨fun pins s1 σ HZ Qv I h => ?_⟩
      obtain ⟨hs, nz, sz, hf⟩ := h
      refine wpAny_Call_Name_kw (thn ((pe_var (X := X.tr pn xe) (pos := q2) (i := 0) (by rw [xN]; rfl) (by show Vis X.env.scope _; rw [xsc]; exact .inl v1)).run pins s1 σ HZ (fun v H1 => v = .ref f ∧ H1 = HZ) I ⟨.ref f, hs, rfl, rfl⟩) fun u s2 ⟨v, H1, I1, r1, e1, e2⟩ => ?_)
      subst e1 e2
      obtain rfl : u = Value.ref f := r1
      have un : Un (frs outer) [] H H1 s.heap s2.heap := by
        have := I1.base
        rw [show (X.tr pn xe).fs = frs outer from by show frs X.outer = _; rw [xou], show (X.tr pn xe).ex = [] from xex, show (X.tr pn xe).H_0 = H from xH0, show (X.tr pn xe).s_0 = s from xs0] at this
        exact this
      obtain ⟨qu, pa, bo, sco, cl, dV, pm, ctv, c', hof⟩ := hlam
      have of1 := un.keep f _ hof hfn hfr (by simp)
      refine PySem.W.callWith_F0 ⟨_, _, _, _, of1⟩ ?_
      have e0' : Env0 P w C.K C.mg base (A.deeper (envOfC qual scope s.heap.objs.size g cdv)) (X.tr pn xe).stack s2 H1 := by
        have := I1.env0
        rw [show (X.tr pn xe).prog = P from xP, show (X.tr pn xe).w = w from xw, show (X.tr pn xe).K = C.K from xK, show (X.tr pn xe).mg = C.mg from xmg, show (X.tr pn xe).base = base from xb, show (X.tr pn xe).A = _ from xA] at this
        exact this
      have rc := th _ _ s2 H1 Qv (fun c d H => W c d σ H) hr2 e0' un nz sz hf
      rw [← xA, ← xP, ← xw] at rc
      refine wpAny_call (codeAny_mono rc ?_)
      intro out s' z
      match out, z with
      | .error e, z => exact passAt tk σ pins H1 s2 e s' I1 z
      | .ok (.ret u), z => exact I1.after z
      | .ok .next, z => exact z.elim
      | .ok .brk, z => exact z.elim
      | .ok .cont, z => exact z.elim
    refine ⟨_, pss_cons (soundS (fuel := 0) (n0 := S.length) o1 X _ a0 s1 (by rw [xN, xsc]; exact k1)) (pss_cons (ps_try_keep (X := X) (i := 3) (c1 := c1) (c2 := c2) (c3 := c3) (Wout := fun cls d _ H => E cls d H)
      (tb := fun W => tAsg (fun σ HZ Qv => σ[0]? = some (some (.ref f)) ∧ Nx H ρ HZ ρ ∧ StOk C HZ ρ S ∧ Fin C (fun c d _ H => W c d σ H) ρ [] HZ Qv R0) (gName 1)) (ts := fun _ => tAsg (tVar 3) (gName 2))
      a0.hs a0.hf a0.at_.nd (by rw [xN]; rfl) (by show X.env.scope.names.lookup _ = _; rw [xsc]; exact v4) g1 (by rw [xmg]; exact m1) d1 g2 (by rw [xmg]; exact m2) d2
      g3 (by rw [xmg]; exact m3) d3 a0.at_.tk
      (fun W pn xe tk po => pss_one (ps_asg (call W pn xe tk) (pg_name (X := X.tr pn xe) a0.at_.nd (by rw [xN]; rfl) (.inl (by rw [xsc]; exact v2)) (.inr (by rw [xsc]; exact v2)))))
      (fun a pn => pss_one (ps_asg (pe_var (X := X.suite a pn) (i := 3) (by rw [xN]; rfl) (by show Vis X.env.scope _; rw [xsc]; exact .inl v4)) (pg_name (X := X.suite a pn) a0.at_.nd (by rw [xN]; rfl) (.inl (by rw [xsc]; exact v3)) (.inr (by rw [xsc]; exact v3))))))
      (pss_one (soundS (fuel := 0) (n0 := S.length) o3 X _ a0 s3 (by rw [xN, xsc]; exact k3)))), ?_⟩
    have hn0 : S.length = ρ.st.length := st.len.symm
    refine ⟨ρ, [some (.adr f), none, none, none], S, Nat.le_of_eq hn0, st, ⟨rfl, fun i d e => ?_⟩, ?_⟩
    · match i, e with
      | 0, e => cases e; exact ⟨.ref f, rfl, .inl (.adr f)⟩
      | 1, e => cases e
      | 2, e => cases e
      | 3, e => cases e
    rw [o1_ev]
    intro σ1 H1 ρ1 n1 st1 rg1
    have eρ := rg_eq n1 hn0 st1 rfl
    subst eρ
    obtain ⟨v0, h0, r0⟩ := rg1.at_ 0 _ rfl
    have ev0 : v0 = .ref f := by
      rcases r0 with r0 | ⟨_, _, z, _⟩
      · cases r0; rfl
      · cases z
    subst ev0
    refine ⟨h0, n1.nx, st1, ?_⟩
    cases R0 with
    | bad => exact fin
    | ok d S1 =>
      intro v H2 n2 st2 r2
      have fin : Fin C (fun c d _ H => E c d H) ρ1 [] H Q (if noLoc d = true then .ok (.lst [d]) S1 else .bad) := fin
      split at fin
      · rename_i hnl
        have rg2 : RepG C H2 ρ1 (σ1.set 1 (some v)) [some (.adr f), some d, some .non, none] := (rg1.nx0 n2).set (i := 1) r2
        refine ⟨ρ1, _, S1, Nat.le_of_eq hn0, st2, rg2, ?_⟩
        rw [o3_ok hnl]
        intro u H3 ρ3 n3 st3 r3 _
        have hl : S1.length = S.length := by rw [← st2.len, hn0]
        have e3 := rg_eq n3 hn0 st3 hl
        subst e3
        exact fin u H3 ((n1.nx.trans n2).trans n3.nx) st3 r3
      · exact fin.elim
    | ex c d S1 =>
      intro Ca dd v H2 hmc n2 st2 hdd hdn r2
      have fin : Fin C (fun c d _ H => E c d H) ρ1 [] H Q (if isXc c = true then sameL S1.length (Fw [.exc c [d]] S1) else .bad) := fin
      split at fin
      · rename_i hxc
        obtain ⟨r, er, _⟩ := isXc_at hxc
        refine ⟨true, by rw [xK]; exact hex c r Ca er hmc, fun _ a na => ?_, fun z => by cases z⟩
        have nA : Nx H2 ρ1 (upd H2 a (ExT (.ref Ca) (some dd) a)) ρ1 := Nx.new na
        have st3 := st2.new (o := ExT (.ref Ca) (some dd) a) na
        have ra : RepD C (upd H2 a (ExT (.ref Ca) (some dd) a)) ρ1 (.ref a) (.exc c [d]) := .exc1 hmc upd_same (st2.free na) (by rw [upd_ne (ne_of_none hdd na)]; exact hdd) hdn (r2.nx nA)
        have rgA : RepG C (upd H2 a (ExT (.ref Ca) (some dd) a)) ρ1 (((σ1.set 3 (some (.ref a))).set 2 (some (.ref a))).set 3 none) [some (.adr f), some .non, some (.exc c [d]), none] :=
          ((((rg1.nx0 n2).nx0 nA).set (i := 3) (.inl ra)).set (i := 2) (.inl ra)).wipe1 (i := 3)
        have hl3 : 3 < σ1.length := by rw [← rg1.len]; show 3 < 4; omega
        refine ⟨.ref a, by rw [List.getElem?_set_self hl3], ?_⟩
        refine ⟨ρ1, _, S1, Nat.le_of_eq hn0, st3, rgA, ?_⟩
        rw [o3_ex hw rfl]
        have NN := (n1.nx.trans n2).trans nA
        cases e : Fw [.exc c [d]] S1 with
        | bad => rw [e] at fin; exact fin
        | ok d2 S2 =>
          rw [e] at fin
          have fin : Fin C (fun c d _ H => E c d H) ρ1 [] H Q (if S2.length = S1.length then .ok d2 S2 else .bad) := fin
          split at fin
          case isFalse => exact fin.elim
          rename_i hz
          intro u H3 ρ3 n3 st3' r3 _
          have hl : S2.length = S.length := by rw [hz, ← st2.len, hn0]
          have e3 := rg_eq n3 hn0 st3' hl
          subst e3
          exact fin u H3 (NN.trans n3.nx) st3' r3
        | ex c2 d2 S2 =>
          rw [e] at fin
          have fin : Fin C (fun c d _ H => E c d H) ρ1 [] H Q (if S2.length = S1.length then .ex c2 d2 S2 else .bad) := fin
          split at fin
          case isFalse => exact fin.elim
          rename_i hz
          intro Ca2 dd2 v2 σ4 H4 ρ4 m n4 st4 g4 w4 nd4 r4
          have hl : S2.length = S.length := by rw [hz, ← st2.len, hn0]
          have e3 := rg_eq n4 hn0 st4 hl
          subst e3
          exact fin Ca2 dd2 v2 H4 m (NN.trans n4.nx) st4 w4 nd4 r4
      · exact fin.elim
  · cases hc
/-- the name itself, which no one calls but with a lambda -/
def badF : Fsem := fun _ _ => .bad
theorem Lev.putO (l : Lev P w C base k Φ Φf G) {Fw : Fsem} (hw : Φ "_law_word" = some Fw) {qual : Str} {params : Arguments} {body : List Stmt} {scope : Scope} {g : Addr} {fd : FuncData} (F : FunD C.K "_law_outcome" qual params body scope [] [] g fd) (hm : C.mg "_law_outcome" = some (.ref g)) (hb : BindsX C.K fd ["_law_call"] "_law_outcome")
    (sc : FnScope N4 ["_law_call"] scope) (tbn : C.tb scope.names = none) (hc : outChk scope body = true) {c1 c2 c3 : Addr} (m1 : C.mg "EvenError" = some (.ref c1)) (m2 : C.mg "Nothing" = some (.ref c2)) (m3 : C.mg "TooLong" = some (.ref c3))
    (hex : ∀ c r Ca, xcT.lookup c = some r → C.mg c = some (.ref Ca) → PySem.W.exmAny C.K (.ref Ca) [.ref c1, .ref c2, .ref c3] = some true) : Lev P w C base (k + 3) (EK.put Φ "_law_outcome" badF) Φf G := by
  refine ⟨Nat.le_trans l.kpos (by omega), l.tabs, l.xcs, l.sub, l.fld, l.sm, fun Fo Fw' e1 e2 => ?_, l.blt, l.glob, fun y F' e => ?_, fun y F' e => ?_⟩
  · unfold EK.put at e2
    rw [if_neg (by decide)] at e2
    exact (out_ok l e2 F hm hb.b sc tbn hc m1 m2 m3 hex).mono (by omega)
  · unfold EK.put at e
    split at e
    · rename_i hy
      cases e
      subst hy
      exact ⟨g, fd, ["_law_call"], hm, F.kp, hb, ⟨fun vs H Q E ⟨_, _, _, _, _, z⟩ => z.elim, fun A outer s H args us vs Q E _ _ _ _ ⟨_, _, _, _, _, z⟩ => z.elim⟩⟩
    · obtain ⟨f, fd, ps, h1, h2, h3, h4⟩ := l.fns y F' e
      exact ⟨f, fd, ps, h1, h2, h3, h4.mono (by omega)⟩
  · obtain ⟨f, fd, ps, h1, h2, h3, h4⟩ := l.fnsF y F' e
    exact ⟨f, fd, ps, h1, h2, h3, h4.mono (by omega)⟩
end
end EK

set_option Elab.async false
set_option linter.all false
set_option maxRecDepth 100000
set_option maxHeartbeats 4000000
namespace EK
open PySem L2 PySem.Spec PyProof.Rows
/-! ### constants of the module, as they stand behind its top -/
mutual
def repK (K : PySem.W.Frag) : D → Value → Bool
  | .non, u => (match u with | .none => true | _ => false)
  | .bl b, u => (match u with | .bool c => b == c | _ => false)
  | .int i, u => (match u with | .int j _ => decide (i = j) | _ => false)
  | .str s, u => (match u with | .str x _ => decide (x = ⟨s.toArray⟩) | _ => false)
  | .tup ds, u => (match u with
    | .ref a => (match K.lookup a with
      | some ⟨.type c, _, .seq its _, _⟩ => decide (c = "tuple") && (Nat.ble its.size 1000 && repKA K ds its.toList)
      | _ => false)
    | _ => false)
  | _, _ => false
def repKA (K : PySem.W.Frag) : List D → List Value → Bool
  | [], us => us.isEmpty
  | d :: ds, us => (match us with | u :: r => repK K d u && repKA K ds r | [] => false)
end
section
variable {K : PySem.W.Frag} {mg : Str → Option Value} {fl : Str → Str} {tb : List (Str × NameKind) → Option (Addr × Str)}
mutual
theorem repK_ok : ∀ {d : D} {u : Value}, repK K d u = true → ∃ v, RelV v u ∧ ∀ H ρ, RepD ⟨K, mg, fl, tb⟩ H ρ v d
  | .non, u, h => by
    cases u with
    | none => exact ⟨.non, rfl, fun _ _ => .non⟩
    | _ => cases h
  | .bl b, u, h => by
    cases u with
    | bool c =>
      have e : b = c := by simpa [repK] using h
      subst e
      exact ⟨.bl b, rfl, fun _ _ => .bl b⟩
    | _ => cases h
  | .int i, u, h => by
    cases u with
    | int j t =>
      have e : i = j := by simpa [repK] using h
      subst e
      exact ⟨.int i, ⟨_, rfl⟩, fun _ _ => .int i⟩
    | _ => cases h
  | .str s, u, h => by
    cases u with
    | str x t =>
      have e : x = ⟨s.toArray⟩ := by simpa [repK] using h
      subst e
      exact ⟨.str ⟨s.toArray⟩, ⟨_, rfl⟩, fun _ _ => .str s⟩
    | _ => cases h
  | .tup ds, u, h => by
    cases u with
    | ref a =>
      rw [repK] at h
      cases q : K.lookup a with
      | none => rw [q] at h; cases h
      | some o =>
        obtain ⟨oc, od, dt, osl⟩ := o
        rw [q] at h
        cases oc with
        | type c =>
          cases dt with
          | seq its n =>
            dsimp only at h
            rw [Bool.and_eq_true, Bool.and_eq_true] at h
            obtain ⟨h1, h2, h3⟩ := h
            obtain ⟨vs, r1, r2⟩ := repKA_ok h3
            have sz : its.size ≤ sizeLine := Nat.le_trans (Nat.le_of_ble_eq_true h2) (by decide)
            exact ⟨.ref a, rfl, fun H ρ => .tup (.inr ⟨_, its, n, q, congrArg Value.type (of_decide_eq_true h1), rfl, sz, r1⟩) (r2 H ρ)⟩
          | _ => cases h
        | _ => cases h
    | _ => cases h
  | .lst _, u, h => by cases u <;> cases h
  | .dic _, u, h => by cases u <;> cases h
  | .fn _, u, h => by cases u <;> cases h
  | .loc _, u, h => by cases u <;> cases h
  | .frz _, u, h => by cases u <;> cases h
  | .exc _ _, u, h => by cases u <;> cases h
  | .opq, u, h => by cases u <;> cases h
  | .adr _, u, h => by cases u <;> cases h
theorem repKA_ok : ∀ {ds : List D} {us : List Value}, repKA K ds us = true → ∃ vs, Vals vs us ∧ ∀ H ρ, RepA ⟨K, mg, fl, tb⟩ H ρ vs ds
  | [], us, h => by
    cases us with
    | nil => exact ⟨[], .nil, fun _ _ => .nil⟩
    | cons _ _ => cases h
  | d :: ds, us, h => by
    cases us with
    | nil => cases h
    | cons u r =>
      rw [repKA] at h
      rw [Bool.and_eq_true] at h
      obtain ⟨v, a1, a2⟩ := repK_ok h.1
      obtain ⟨vs, b1, b2⟩ := repKA_ok h.2
      exact ⟨v :: vs, .cons a1 b1, fun H ρ => .cons (a2 H ρ) (b2 H ρ)⟩
end
end
def fnB (x : Str) : D → Bool
  | .fn y => decide (x = y)
  | _ => false
def refB : Value → Bool
  | .ref _ => true
  | _ => false
def conK (K : PySem.W.Frag) (x : Str) (d : D) : Bool := match PySem.W.nsIn K mainGlobals x with
  | some (some u) => repK K d u || (fnB x d && refB u)
  | _ => false
def consK (Gt : List (Str × D)) (K : PySem.W.Frag) : Bool := Gt.all fun p => conK K p.1 p.2
theorem consK_ok {K : PySem.W.Frag} {h : Heap} {mg : Str → Option Value} {fl : Str → Str} {tb : List (Str × NameKind) → Option (Addr × Str)} {Gt : List (Str × D)} (X : K.In h) (Gx : h.Ns mainGlobals mg) (c : consK Gt K = true) :
    ∀ x d, Gt.lookup x = some d → ∃ u v, mg x = some u ∧ RelV v u ∧ ∀ H ρ, RepD ⟨K, mg, fl, tb⟩ H ρ v d := by
  intro x d e
  have m : (x, d) ∈ Gt := by
    clear c
    induction Gt with
    | nil => cases e
    | cons p r ih =>
      obtain ⟨y, z⟩ := p
      rw [List.lookup_cons] at e
      by_cases q : (x == y) = true
      · rw [q] at e
        cases e
        rw [beq_iff_eq.mp q]
        exact List.mem_cons_self ..
      · rw [Bool.not_eq_true] at q
        rw [q] at e
        exact List.mem_cons_of_mem _ (ih e)
  have c := List.all_eq_true.mp c _ m
  unfold conK at c
  dsimp only at c
  cases q : PySem.W.nsIn K mainGlobals x with
  | none => rw [q] at c; cases c
  | some o =>
    cases o with
    | none => rw [q] at c; cases c
    | some u =>
      rw [q] at c
      dsimp only at c
      rw [Bool.or_eq_true] at c
      rcases c with c | c
      · obtain ⟨v, r1, r2⟩ := repK_ok (mg := mg) (fl := fl) c
        exact ⟨u, v, PySem.W.mg_of X Gx q, r1, r2⟩
      · rw [Bool.and_eq_true] at c
        have hm := PySem.W.mg_of X Gx q
        cases d with
        | fn y =>
          have e1 : x = y := of_decide_eq_true c.1
          subst e1
          cases u with
          | ref a => exact ⟨.ref a, .ref a, hm, rfl, fun H ρ => .fn hm⟩
          | _ => cases c.2
        | _ => cases c.1
/-! ### dicts of the module -/
def tabV (K : PySem.W.Frag) (x : Str) : Bool := match mdT.lookup x with
  | some es => es.all fun p => match PySem.W.nsIn K (He.ga K x) p.1 with
    | some (some u) => repK K p.2 u
    | _ => false
  | none => false
def tabR (K : PySem.W.Frag) (x : Str) : Bool := match PySem.W.nsIn K mainGlobals x with
  | some (some u) => refB u
  | _ => false
def tabKs (x : Str) : List Str := match mdT.lookup x with
  | some es => es.map (·.1)
  | none => []
theorem mem_lookup {β : Type} : ∀ {l : List (Str × β)} {x : Str} {d : β}, l.lookup x = some d → (x, d) ∈ l
  | [], _, _, e => by cases e
  | (y, z) :: r, x, d, e => by
    rw [List.lookup_cons] at e
    by_cases q : (x == y) = true
    · rw [q] at e
      cases e
      rw [beq_iff_eq.mp q]
      exact List.mem_cons_self ..
    · rw [Bool.not_eq_true] at q
      rw [q] at e
      exact List.mem_cons_of_mem _ (mem_lookup e)
theorem tab_ok {K : PySem.W.Frag} {w : World} {h : Heap} {mg : Str → Option Value} {fl : Str → Str} {tb : List (Str × NameKind) → Option (Addr × Str)} (X : K.In h) (Gx : h.Ns mainGlobals mg) {x : Str} {es : List (Str × D)} {a : Addr} (e : mdT.lookup x = some es) (hm : mg x = some (.ref a))
    (c1 : He.dicW K (He.ga K x) = some (He.keysIn w.params (tabKs x))) (c2 : tabV K x = true) (c3 : tabR K x = true) :
    ∃ ds n, KDict K w a ds n ∧ ∀ z d, es.lookup z = some d → ∃ u v, PySem.W.nsIn K a z = some (some u) ∧ RelV v u ∧ ∀ H ρ, RepD ⟨K, mg, fl, tb⟩ H ρ v d := by
  have ga : He.ga K x = a := by
    unfold tabR at c3
    unfold He.ga
    cases q : PySem.W.nsIn K mainGlobals x with
    | none => rw [q] at c3; cases c3
    | some o => cases o with
      | none => rw [q] at c3; cases c3
      | some u =>
        have := PySem.W.mg_of X Gx q
        rw [hm] at this
        cases this
        rfl
  obtain ⟨ds, n, kd⟩ := He.dicW_ok c1
  rw [ga] at kd
  refine ⟨ds, n, kd, fun z d hz => ?_⟩
  unfold tabV at c2
  rw [e] at c2
  dsimp only at c2
  have := List.all_eq_true.mp c2 _ (mem_lookup hz)
  rw [ga] at this
  dsimp only at this
  cases q : PySem.W.nsIn K a z with
  | none => rw [q] at this; cases this
  | some o => cases o with
    | none => rw [q] at this; cases this
    | some u =>
      rw [q] at this
      obtain ⟨v, r1, r2⟩ := repK_ok (mg := mg) (fl := fl) this
      exact ⟨u, v, rfl, r1, r2⟩
theorem tabs_none {K : PySem.W.Frag} {w : World} {mg : Str → Option Value} {fl : Str → Str} {tb : List (Str × NameKind) → Option (Addr × Str)} (h : mg "MEANT" = none) : Tabs K w ⟨K, mg, fl, tb⟩ := by
  intro x es a e hm
  have hx : x = "MEANT" := by
    have := mem_lookup e
    unfold mdT at this
    rw [List.mem_singleton] at this
    exact congrArg Prod.fst this
  subst hx
  have hm : mg "MEANT" = some (.ref a) := hm
  rw [h] at hm
  cases hm
theorem tabs_meant {K : PySem.W.Frag} {w : World} {h : Heap} {mg : Str → Option Value} {fl : Str → Str} {tb : List (Str × NameKind) → Option (Addr × Str)} (X : K.In h) (Gx : h.Ns mainGlobals mg)
    (c1 : He.dicW K (He.ga K "MEANT") = some (He.keysIn w.params (tabKs "MEANT"))) (c2 : tabV K "MEANT" = true) (c3 : tabR K "MEANT" = true) : Tabs K w ⟨K, mg, fl, tb⟩ := by
  intro x es a e hm
  have hx : x = "MEANT" := by
    have := mem_lookup e
    unfold mdT at this
    rw [List.mem_singleton] at this
    exact congrArg Prod.fst this
  subst hx
  exact tab_ok X Gx e hm c1 c2 c3
/-- the tables that the law's module has -/
def tabsK (ts : List Str) (K : PySem.W.Frag) : Bool := ts.all fun x => tabV K x && tabR K x
theorem fd_uniq {K : PySem.W.Frag} {x qual : Str} {params : Arguments} {body : List Stmt} {scope : Scope} {f : Addr} {fd fd2 : FuncData} (F : FunD K x qual params body scope [] [] f fd) (F2 : FunD K x qual params body scope [] [] f fd2) : fd2 = fd := by
  obtain ⟨_, _, _, _, _, _, _, _, _, _, e1, e2, _⟩ := F.ex
  obtain ⟨_, _, _, _, _, _, _, _, _, _, e3, e4, _⟩ := F2.ex
  rw [e2] at e4
  injection e4 with e4
  injection e4 with _ _ e4 _
  injection e4 with e4
  exact e4.symm
/-! ### a world told with one answer fixed: the top asks it once for each text key of a dict -/
def folW (w : World) (b : Bool) : World := { w with params := { w.params with followText := fun r => if r = "special-get-raises" then b else w.params.followText r } }
theorem folW_eq (w : World) : folW w (w.params.followText "special-get-raises") = w := by
  have e : (fun r => if r = "special-get-raises" then w.params.followText "special-get-raises" else w.params.followText r) = w.params.followText := by
    funext r
    split
    · rename_i h; rw [h]
    · rfl
  unfold folW
  rw [e]
/-! ### the head, read with one more Bool, and the keys of tables -/
abbrev AlE : Type := He.AlD × Bool × List (Option (List (Option (Str × Int))))
def obsE (n : Nat) (fa : List He.Fa) (fn : List He.DefD) (ex : PySem.W.Frag → Bool) (ts : List Str) (g : Addr → Option Obj) : AlE := (He.obsDG n fa fn g, ex (He.frG g (He.asD g n)) && tabsK ts (He.frG g (He.asD g n)), ts.map fun x => He.dicW (He.frG g (He.asD g n)) (He.ga (He.frG g (He.asD g n)) x))
structure SaysE (fa : List He.Fa) (fn : List He.DefD) (ex : PySem.W.Frag → Bool) (ts : List Str) (w : World) (K : PySem.W.Frag) : Prop where
  d : He.SaysD fa fn K
  more : ex K = true
  tb : tabsK ts K = true
  ks : (ts.map fun x => He.dicW K (He.ga K x)) = ts.map fun x => some (He.keysIn w.params (tabKs x))
def hookE (n : Nat) (fa : List He.Fa) (fn : List He.DefD) (ex : PySem.W.Frag → Bool) (ts : List Str) : PySem.W.Hook where
  α := AlE
  obs := fun s => obsE n fa fn ex ts s.heap.get?
  val := fun w => ((He.hookD n fa fn).val w, true, ts.map fun x => some (He.keysIn w.params (tabKs x)))
  says := fun w h => ∃ K : PySem.W.Frag, K.In h ∧ SaysE fa fn ex ts w K
  of := fun w s e => by
    have e1 : He.obsDG n fa fn s.heap.get? = (He.hookD n fa fn).val w := congrArg (fun z : AlE => z.1) e
    have e2 : (ex (He.frG s.heap.get? (He.asD s.heap.get? n)) && tabsK ts (He.frG s.heap.get? (He.asD s.heap.get? n))) = true := congrArg (fun z : AlE => z.2.1) e
    have e3 : (ts.map fun x => He.dicW (He.frG s.heap.get? (He.asD s.heap.get? n)) (He.ga (He.frG s.heap.get? (He.asD s.heap.get? n)) x)) = ts.map fun x => some (He.keysIn w.params (tabKs x)) := congrArg (fun z : AlE => z.2.2) e
    rw [Bool.and_eq_true] at e2
    exact ⟨He.frG s.heap.get? (He.asD s.heap.get? n), He.frG_in, ⟨e1, e2.1, e2.2, e3⟩⟩
  keeps := fun _ _ _ ⟨K, hK, c⟩ k => ⟨K, PySem.W.Frag.In.keeps hK k, c⟩
theorem obsE_eq {n : Nat} {fa : List He.Fa} {fn : List He.DefD} {ex : PySem.W.Frag → Bool} {ts : List Str} {g : Addr → Option Obj} {s : Shared} (h : ∀ a, g a = s.heap.get? a) : obsE n fa fn ex ts g = (hookE n fa fn ex ts).obs s := by
  have e : g = s.heap.get? := funext h
  rw [e]; rfl
theorem SaysE.meant {fa : List He.Fa} {fn : List He.DefD} {ex : PySem.W.Frag → Bool} {w : World} {K : PySem.W.Frag} {h : Heap} {mg : Str → Option Value} {fl : Str → Str} {tb : List (Str × NameKind) → Option (Addr × Str)} (c : SaysE fa fn ex ["MEANT"] w K) (X : K.In h) (Gx : h.Ns mainGlobals mg) : Tabs K w ⟨K, mg, fl, tb⟩ := by
  have t := c.tb
  unfold tabsK at t
  rw [List.all_cons, Bool.and_eq_true, Bool.and_eq_true] at t
  have k := c.ks
  rw [List.map_cons, List.map_cons] at k
  exact tabs_meant X Gx (List.cons.inj k).1 t.1.1 t.1.2
end EK

set_option Elab.async false
set_option linter.all false
set_option maxRecDepth 100000
set_option maxHeartbeats 4000000
namespace EK
open PySem L2 PySem.Spec PyProof.Rows
/-! ### the end of a law whose defs have lambdas -/
abbrev tab0 : Obj := { cls := .none, data := .fields #[] }
/-- the tables that are tracked at the beginning: (code object, table) -/
structure TabsAt (K : PySem.W.Frag) (h : Heap) (cs : List (Addr × Addr)) : Prop where
  emp : ∀ p ∈ cs, h.get? p.2 = some tab0
  out : ∀ p ∈ cs, K.lookup p.2 = none
  code : ∀ p ∈ cs, PySem.W.CodeHd h p.1 p.2
section
variable {P : Program} {w : World} {K : PySem.W.Frag} {mg mb : Str → Option Value} {Xc : CXT} {k : Nat} {fa a : Addr} {fd : FuncData} {x : Str} {sp : Sp} {s₁ : Shared} {vs : List Value} {ns : List Int} {cs : List (Addr × Addr)}
abbrev BmAt (mg : Str → Option Value) (h : Heap) : Prop := ∃ (bm : Addr) (ob : Obj), mg "__builtins__" = some (.ref bm) ∧ bm ≠ builtinsNs ∧ h.get? bm = some ob ∧ ob.cls = .type "module" ∧ ob.dict = some builtinsNs ∧ ob.data = .plain
theorem law_atT {H : Hp} (inK : K.In s₁.heap) (hns : s₁.heap.Ns mainGlobals mg) (nb : s₁.heap.Ns builtinsNs mb) (nbb : ∀ x : Str, x ≠ "__name__" → mb x = bootBuiltins x) (lim : s₁.heap.NoLimit) (g0 : s₁.gens = #[]) (T : TabsAt K s₁.heap cs) (bmA : BmAt mg s₁.heap)
    (at_a : s₁.heap.get? a = some { cls := .type "list", data := .seq vs.toArray }) (rr : Rm k callerA) (F : ∀ base : Heap, K.In base → base.Ns mainGlobals mg → (∀ p ∈ cs, LamX.TabB base mg p.1 p.2) → FnG P w K mg base Xc k fa fd [x] sp)
    (bnd : ∀ (s : Shared) (u : Value), BindsTo s fd ⟨[u], []⟩ [(x, u)]) (prm : sp [.ref a] H (fun v _ => v = .bl true) fun _ _ _ => False) (calm : ∀ e s', Xc [] H s₁ (fun _ _ _ => False) e s' → False)
    (inT : ∀ p ∈ cs, H p.2 = some (.tbl #[])) (hok : HOk P w H s₁.heap) (just : ∀ b, H b ≠ none → b ∈ cs.map (·.2) ∨ (b = a ∧ ∃ o xs, H b = some (.frz o (.lst xs)))) (away : H a ≠ none → K.lookup a = none) :
    codeAny (model P w) callerA (.call (.ref fa) ⟨[.ref a], []⟩) (Law1 s₁) s₁ := by
  have emp : ∀ b, b ∈ cs.map (·.2) → s₁.heap.get? b = some tab0 := by
    intro b m
    obtain ⟨p, hp, rfl⟩ := List.mem_map.mp m
    exact T.emp p hp
  have free : ∀ {b : Addr} {o : Obj}, s₁.heap.get? b = some o → (∀ us n, o.data ≠ .seq us n) → o.data ≠ .fields #[] → H b = none := by
    intro b o e d1 d2
    by_cases n : H b = none
    · exact n
    · rcases just b n with z | ⟨z, _⟩
      · rw [emp b z] at e
        cases e
        exact absurd rfl d2
      · rw [z, at_a] at e
        cases e
        exact absurd rfl (d1 _ _)
  have names : ∀ {b : Addr} {m : Str → Option Value}, s₁.heap.Ns b m → (hidT s₁.heap H).Ns b m := by
    rintro b m ⟨o, es, ep, e, d, r⟩
    exact ⟨o, es, ep, hidT_get e (free e (fun us n q => by rw [d] at q; cases q) fun q => by rw [d] at q; cases q), d, r⟩
  have kb : K.In (hidT s₁.heap H) := by
    intro b o e
    refine hidT_get (inK b o e) ?_
    by_cases n : H b = none
    · exact n
    · rcases just b n with z | ⟨z, _⟩
      · obtain ⟨p, hp, rfl⟩ := List.mem_map.mp z
        rw [T.out p hp] at e
        cases e
      · subst z
        rw [away n] at e
        cases e
  have tbs : ∀ p ∈ cs, LamX.TabB (hidT s₁.heap H) mg p.1 p.2 := by
    intro p hp
    refine ⟨?_, ?_, fun z => ?_⟩
    · obtain ⟨o, us, file, tf, flags, tg, inF, text, tt, e1, r1, r2, r3, r⟩ := T.code p hp
      refine ⟨o, us, file, tf, flags, tg, inF, text, tt, hidT_get e1 (free e1 (fun us n q => by rw [r2] at q; cases q) fun q => ?_), r1, r2, r3, r⟩
      rw [r2] at q
      cases q
      cases r3
    · obtain ⟨bm, ob, b1, b2, b3, b4, b5, b6⟩ := bmA
      refine ⟨bm, ob, b1, b2, fun q => ?_, fun q => ?_, hidT_get b3 (free b3 (fun us n q => by rw [b6] at q; cases q) fun q => by rw [b6] at q; cases q), b4, b5, b6⟩
      · obtain ⟨o, es, ep, e, d, _⟩ := hns
        rw [q, e] at b3
        cases b3
        rw [d] at b6
        cases b6
      · rw [q, T.emp p hp] at b3
        cases b3
        cases b6
    · obtain ⟨o, es, ep, e, d, _⟩ := hns
      rw [z, T.emp p hp] at e
      cases e
      cases d
  obtain ⟨mc, l1, l2⟩ := lim
  have env : Env0 P w K mg (hidT s₁.heap H) callerA [] s₁ H :=
    ⟨rfl, ⟨kb, names hns, ⟨mb, names nb, nbb⟩, ⟨mc, names l1, l2⟩⟩, fun b o e => of_hidT e, Nat.le_of_eq (hidT_size _ _), trivial, (fun b q => by cases (show b ∈ ([] : List Addr) from q)), hok, .of_eq g0⟩
  refine codeAny_mono ((F _ kb (names hns) tbs).go callerA [] s₁ H ⟨[.ref a], []⟩ [.ref a] [.ref a] _ _ rr env (bnd s₁ (.ref a)) (.cons rfl .nil) prm) ?_
  intro r s' out
  match r, out with
  | .error e, out => exact (calm e s' out).elim
  | .ok .next, out => exact out.elim
  | .ok .brk, out => exact out.elim
  | .ok .cont, out => exact out.elim
  | .ok (.ret u), ⟨v, H', os, bare, un, hok', rv, q⟩ =>
    have q : v = .bl true := q
    subst q
    have rv : u = Value.bool true := rv
    subst rv
    have stay : ∀ b o, b ∉ cs.map (·.2) → s₁.heap.get? b = some o → s'.heap.get? b = some o := by
      intro b o nb e
      by_cases n : H b = none
      · exact un.keep b o e n (fun z => by cases (show b ∈ ([] : List Addr) from z)) (by simp)
      · rcases just b n with z | ⟨_, ob, xs, z⟩
        · exact absurd z nb
        · have e1 := (hok b _ z).1
          have e2 := (hok' b _ (un.frzs b ob _ z)).1
          rw [e1] at e
          cases e
          exact e2
    have more : ∀ p ∈ cs, ∃ m : Array Value, s'.heap.get? p.2 = some { cls := .none, data := .fields m } := by
      intro p hp
      obtain ⟨m, z⟩ := un.tbls p.2 #[] (inT p hp)
      exact ⟨_, hok' p.2 _ z⟩
    refine ⟨rfl, ⟨fun b o e => ?_, fun b o e => ?_⟩, os, bare⟩
    · by_cases m : b ∈ cs.map (·.2)
      · obtain ⟨p, hp, rfl⟩ := List.mem_map.mp m
        obtain ⟨m, hm⟩ := more p hp
        have e0 := T.emp p hp
        rw [e0] at e
        cases e
        refine .inr (.inl ⟨((T.code p hp).tab e0).isCodeTable, rfl, #[], m, rfl, ?_⟩)
        rw [Array.empty_append]
        exact hm
      · exact .inl (stay b o m e)
    · by_cases m : b ∈ cs.map (·.2)
      · obtain ⟨p, hp, rfl⟩ := List.mem_map.mp m
        obtain ⟨m, hm⟩ := more p hp
        exact ⟨_, hm⟩
      · exact ⟨o, stay b o m e⟩
theorem law_callT (inK : K.In s₁.heap) (hns : s₁.heap.Ns mainGlobals mg) (nb : s₁.heap.Ns builtinsNs mb) (nbb : ∀ x : Str, x ≠ "__name__" → mb x = bootBuiltins x) (lim : s₁.heap.NoLimit) (g0 : s₁.gens = #[]) (T : TabsAt K s₁.heap cs) (bmA : BmAt mg s₁.heap)
    (at_a : s₁.heap.get? a = some { cls := .type "list", data := .seq vs.toArray }) (hi : IntsAre vs ns) (hl : ns.length ≤ sizeLine) (rr : Rm k callerA) (F : ∀ base : Heap, K.In base → base.Ns mainGlobals mg → (∀ p ∈ cs, LamX.TabB base mg p.1 p.2) → FnG P w K mg base Xc k fa fd [x] sp)
    (bnd : ∀ (s : Shared) (u : Value), BindsTo s fd ⟨[u], []⟩ [(x, u)]) (prm : ∀ H : Hp, (∀ p ∈ cs, H p.2 = some (.tbl #[])) → a ∉ cs.map (·.2) → SqL K H a (ns.map V.int) → sp [.ref a] H (fun v _ => v = .bl true) fun _ _ _ => False) (calm : ∀ H e s', Xc [] H s₁ (fun _ _ _ => False) e s' → False) :
    codeAny (model P w) callerA (.call (.ref fa) ⟨[.ref a], []⟩) (Law1 s₁) s₁ := by
  have rv := vals_ints hi
  have na : a ∉ cs.map (·.2) := by
    intro m
    obtain ⟨p, hp, e⟩ := List.mem_map.mp m
    have z := T.emp p hp
    rw [e, at_a] at z
    have z : Data.seq vs.toArray _ = Data.fields #[] := congrArg Obj.data (Option.some.inj z)
    cases z
  by_cases c : K.lookup a = none
  · let H0 : Hp := fun b => if b ∈ cs.map (·.2) then some (.tbl #[]) else if b = a then some (.frz { cls := .type "list", data := .seq vs.toArray } (.lst (ns.map V.int))) else none
    have same : H0 a = some (.frz { cls := .type "list", data := .seq vs.toArray } (.lst (ns.map V.int))) := (if_neg na).trans (if_pos rfl)
    have tbl : ∀ b, b ∈ cs.map (·.2) → H0 b = some (.tbl #[]) := fun b m => if_pos m
    have oth : ∀ b, b ∉ cs.map (·.2) → b ≠ a → H0 b = none := fun b m h => (if_neg m).trans (if_neg h)
    have inT : ∀ p ∈ cs, H0 p.2 = some (.tbl #[]) := fun p hp => tbl _ (List.mem_map_of_mem hp)
    refine law_atT inK hns nb nbb lim g0 T bmA at_a rr F bnd (prm H0 inT na (.inl (.inr ⟨_, same⟩))) (calm H0) inT (fun b u z => ?_) (fun b h => ?_) fun _ => c
    · by_cases m : b ∈ cs.map (·.2)
      · rw [tbl b m] at z
        cases z
        obtain ⟨p, hp, rfl⟩ := List.mem_map.mp m
        exact T.emp p hp
      · by_cases h : b = a
        · subst h
          rw [same] at z
          cases z
          exact ⟨at_a, by rw [List.length_map]; exact hl, vs, _, rv, at_a⟩
        · rw [oth b m h] at z
          cases z
    · by_cases m : b ∈ cs.map (·.2)
      · exact .inl m
      · by_cases q : b = a
        · subst q
          exact .inr ⟨rfl, _, _, same⟩
        · exact absurd (oth b m q) h
  · obtain ⟨o, c⟩ := Option.ne_none_iff_exists'.mp c
    have e := inK a o c
    rw [at_a] at e
    cases e
    let H0 : Hp := fun b => if b ∈ cs.map (·.2) then some (.tbl #[]) else none
    have tbl : ∀ b, b ∈ cs.map (·.2) → H0 b = some (.tbl #[]) := fun b m => if_pos m
    have oth : ∀ b, b ∉ cs.map (·.2) → H0 b = none := fun b m => if_neg m
    have inT : ∀ p ∈ cs, H0 p.2 = some (.tbl #[]) := fun p hp => tbl _ (List.mem_map_of_mem hp)
    refine law_atT inK hns nb nbb lim g0 T bmA at_a rr F bnd (prm H0 inT na (.inr ⟨_, vs.toArray, _, c, rfl, rfl, rfl, ?_, by simpa using rv⟩)) (calm _) inT (fun b u z => ?_) (fun b h => ?_) fun h => absurd (oth a na) h
    · rw [List.size_toArray, hi.length]; exact hl
    · by_cases m : b ∈ cs.map (·.2)
      · rw [tbl b m] at z
        cases z
        obtain ⟨p, hp, rfl⟩ := List.mem_map.mp m
        exact T.emp p hp
      · rw [oth b m] at z
        cases z
    · by_cases m : b ∈ cs.map (·.2)
      · exact .inl m
      · exact absurd (oth b m) h
end
/-- a law by the promise of its def, with tables -/
theorem walk_ofT {l : PySem.W.OpenLaw} {n k : Nat} {q : Program} {loose : List Str} {XP : (Str → Option Value) → Heap → Prop} {YP : World → Heap → Prop} {d : DefRec} {Xc : CXT} {x : Str}
    (hn : l.most = some n) (hn2 : n ≤ sizeLine) (hdf : d.params.defaults = []) (rr : Rm k callerA)
    (F : ∀ (w : World) (mg : Str → Option Value) (fa : Addr) (h : Heap), YP w h → h.Ns mainGlobals mg → mg d.name = some (.ref fa) → ∃ (K : PySem.W.Frag) (fd : FuncData) (sp : Sp) (cs : List (Addr × Addr)), K.In h ∧ TabsAt K h cs ∧
        (∀ (s : Shared) (u : Value), BindsTo s fd ⟨[u], []⟩ [(x, u)]) ∧
        (∀ (H : Hp) (a : Addr) (ns : List Int), ns.length ≤ n → (∀ p ∈ cs, H p.2 = some (.tbl #[])) → a ∉ cs.map (·.2) → SqL K H a (ns.map V.int) → sp [.ref a] H (fun v _ => v = .bl true) fun _ _ _ => False) ∧
          ∀ base : Heap, K.In base → base.Ns mainGlobals mg → (∀ p ∈ cs, LamX.TabB base mg p.1 p.2) → FnG l.prog w K mg base Xc k fa fd [x] sp)
    (calm : ∀ (H : Hp) (s : Shared) (e : Value) (s' : Shared), Xc [] H s (fun _ _ _ => False) e s' → False) : PySem.W.WalkO q loose XP YP l.row.toRowW d [] (fun f vs => PySem.call f vs) := by
  apply Att.attach_call hn hdf
  intro w s₀ s₁ mg mb fa o pm cd doc a vs ns G Y ho hd hcd hmg hobj hints hlen hg
  obtain ⟨K, fd, sp, cs, inK, T, hb, hsp, hF⟩ := F w mg fa _ Y G.T.g hmg
  exact law_callT inK G.T.g G.T.b G.T.builtins G.T.nolimit hg T G.T.bmain hobj hints (Nat.le_trans hlen hn2) rr hF hb (fun H inT na sq => hsp H a ns hlen inT na sq) fun H e s' => calm H s₁ e s'
end EK

set_option Elab.async false
set_option linter.all false
set_option maxRecDepth 100000
set_option maxHeartbeats 4000000
namespace EK
open PySem L2 PySem.Spec PyProof.Rows PySem.W
/-! ### the program's error classes, read off the head -/
def xpar (f : Str) (p : Arguments) : Bool := match p with
  | ⟨[], [⟨a, _, _⟩, ⟨b, _, _⟩], none, [], [], none, []⟩ => decide (a = "self") && decide (b = f) && decide (f ∈ (["value", "number", "part", "line", "most"] : List Str))
  | _ => false
def nonV : Value → Bool
  | .none => true
  | _ => false
theorem nonV_ok {v : Value} (h : nonV v = true) : v = .none := by
  cases v <;> first | rfl | cases h
def xsc (f : Str) (sc : Scope) : Bool := decide (sc.names.lookup ("super" : Str) = some .globalImplicit) && decide (sc.names.lookup ("__class__" : Str) = some .free) && decide (sc.names.lookup ("self" : Str) = some .local) && decide (sc.names.lookup f = some .local) &&
  decide (sc.kind = .function) && !sc.isCoroutine && !sc.isGenerator && sc.names.all fun y => !decide (y.2 = .cell)
def xbd (f : Str) (b : FuncBody) : Bool := match b with
  | .stmts [.Expr (.Call (.Attribute (.Call (.Name a _) [] [] _) b p2) [.Constant (.str _) _ _] [] p4) _, .Assign [.Attribute (.Name c _) g _] (.Name d _) _] =>
    decide (a = "super") && decide (b = "__init__") && decide (c = "self") && decide (g = f) && decide (d = f) && (p2.endLine == p4.line)
  | _ => false
def xcl (K : Frag) (C : Addr) (cl : List (Str × Addr)) : Bool := match cl with
  | [(x, cc)] => decide (x = "__class__") && (match K.lookup cc with
    | some ⟨_, _, .cell (some (.ref D)), _⟩ => decide (D = C)
    | _ => false)
  | _ => false
def xco (prog : Program) (K : Frag) (q : Str) (c : Value) : Bool := codeIn K c q && (match c with
  | .ref cda => (match K.lookup cda with
    | some ⟨_, _, .fields vs, _⟩ => (match (vs[2]? : Option Value) with
      | some (.str file _) => (prog.main.file : Str) == file
      | _ => false)
    | _ => false)
  | _ => false)
def xfd (prog : Program) (K : Frag) (f : Str) (C : Addr) (fd : FuncData) : Bool :=
  decide (fd.name = "__init__") && decide (fd.globals = mainGlobals) && decide (fd.builtins = builtinsNs) && nonV fd.defaults && nonV fd.kwdefaults && xbd f fd.body && xsc f fd.scope && xpar f fd.params && xcl K C fd.closure && xco prog K fd.qualname fd.code
def xfn (prog : Program) (K : Frag) (f : Str) (C : Addr) : Bool := match findIn K (.ref C) "__init__" with
  | some (some (.ref fI)) => (match K.lookup fI with
    | some ⟨.type t, _, .func fd, _⟩ => decide (t = "function") && xfd prog K f C fd
    | _ => false)
  | _ => false
def xcB (prog : Program) (K : Frag) (C : Addr) (f : Str) (B newId initId : String) (bmB : List Value) : Bool :=
  excInitIn K C bmB newId && excOver K C bmB && decide (takerIn K C f = some none) && hasDictIn K C && decide (findIn K (.ref C) "__setattr__" = some (some (.builtin "object.__setattr__"))) &&
  decide (ks_superIn K C C "__init__" = some (some (.builtin initId))) && decide (subIn K (.ref C) (.type B) = some true) && decide (mroIn K C (.ref C) = some true) && decide (nsIn K cStatics "thirdparty.any" = some none) &&
  !(prog.main.scope.names.lookup ("super" : Str)).isSome && decide (subIn K (.ref C) (.type "BaseException") = some true) && decide (typeIn K (.ref C) = some (.type "type")) && keepIn K (.ref C) && !(f == ("__debug__" : Str)) && !decide (f = "self") && xfn prog K f C
theorem xbind {qual : Str} {params : Arguments} {body : List Stmt} {scope : Scope} {doc pm cdv ct : Value} {an : Option Addr} {cc : Addr} {f : Str} (h : xpar f params = true) (e v : Value) :
    bindArgs (ksFn "__init__" qual params body scope .none .none doc pm an cdv ct cc) ⟨[e, v], []⟩ = pure [(("self" : Str), e), (f, v)] := by
  unfold xpar at h
  split at h
  · rw [Bool.and_eq_true, Bool.and_eq_true, decide_eq_true_iff, decide_eq_true_iff, decide_eq_true_iff] at h
    obtain ⟨⟨rfl, rfl⟩, h⟩ := h
    simp only [List.mem_cons, List.not_mem_nil, or_false] at h
    rcases h with rfl | rfl | rfl | rfl | rfl <;> rfl
  · cases h
theorem xbindK {qual : Str} {params : Arguments} {body : List Stmt} {scope : Scope} {doc pm cdv ct : Value} {an : Option Addr} {cc : Addr} {f : Str} (h : xpar f params = true) (e v : Value) :
    bindArgs (ksFn "__init__" qual params body scope .none .none doc pm an cdv ct cc) ⟨[e], [(f, v)]⟩ = pure [(("self" : Str), e), (f, v)] := by
  unfold xpar at h
  split at h
  · rw [Bool.and_eq_true, Bool.and_eq_true, decide_eq_true_iff, decide_eq_true_iff, decide_eq_true_iff] at h
    obtain ⟨⟨rfl, rfl⟩, h⟩ := h
    simp only [List.mem_cons, List.not_mem_nil, or_false] at h
    rcases h with rfl | rfl | rfl | rfl | rfl <;> rfl
  · cases h
theorem xcB_ok {prog : Program} {K : Frag} {C : Addr} {f : Str} {B newId initId : String} {bmB : List Value} (fb : ExcBaseFacts B newId initId bmB) (kf : KxsFacts B initId) (sf : StoreFacts B bmB "object.__setattr__" "object") (h : xcB prog K C f B newId initId bmB = true) : XC prog K C f B newId initId bmB := by
  unfold xcB at h
  obtain ⟨h, q16⟩ := and2 h
  obtain ⟨h, q15⟩ := and2 h
  obtain ⟨h, q14⟩ := and2 h
  obtain ⟨h, q13⟩ := and2 h
  obtain ⟨h, q12⟩ := and2 h
  obtain ⟨h, q11⟩ := and2 h
  obtain ⟨h, q10⟩ := and2 h
  obtain ⟨h, q9⟩ := and2 h
  obtain ⟨h, q8⟩ := and2 h
  obtain ⟨h, q7⟩ := and2 h
  obtain ⟨h, q6⟩ := and2 h
  obtain ⟨h, q5⟩ := and2 h
  obtain ⟨h, q4⟩ := and2 h
  obtain ⟨h, q3⟩ := and2 h
  obtain ⟨q1, q2⟩ := and2 h
  rw [Bool.not_eq_true'] at q10 q14 q15
  rw [decide_eq_true_iff] at q3 q5 q6 q7 q8 q9 q11 q12
  rw [decide_eq_false_iff_not] at q15
  refine ⟨fb, kf, sf, q1, q2, q3, q4, q5, q6, q7, q8, q9, q10, q11, q12, q13, ?_⟩
  unfold xfn at q16
  split at q16
  · rename_i fI hfi
    split at q16
    · rename_i t od fd osl lkf
      obtain ⟨ht, q⟩ := and2 q16
      rw [decide_eq_true_iff] at ht
      subst ht
      unfold xfd at q
      simp only [Bool.and_eq_true] at q
      obtain ⟨⟨⟨⟨⟨⟨⟨⟨⟨r1, r2⟩, r3⟩, r9⟩, r10⟩, r4⟩, r5⟩, r6⟩, r7⟩, r8⟩ := q
      rw [decide_eq_true_iff] at r1 r2 r3
      obtain ⟨n1, n2, n3, n4, n5, n6, n7, n8, n9, n10, n11, n12, n13, n14, n15⟩ := fd
      dsimp only at r1 r2 r3 r4 r5 r6 r7 r8 r9 r10
      have r9 := nonV_ok r9
      have r10 := nonV_ok r10
      subst r1 r2 r3 r9 r10
      have rb := @xbind n2 n3
      have rk := @xbindK n2 n3
      unfold xbd at r4
      split at r4
      · skip
        rename_i a p0 p1 b p2 msg j p3 p4 p5 c p6 g p7 d p8 p9
        simp only [Bool.and_eq_true] at r4
        obtain ⟨⟨⟨⟨⟨s1, s2⟩, s3⟩, s4⟩, s5⟩, s6⟩ := r4
        rw [decide_eq_true_iff] at s1 s2 s3 s4 s5
        subst s1 s2 s3 s4 s5
        unfold xcl at r7
        split at r7
        · rename_i x cc
          obtain ⟨u1, u2⟩ := and2 r7
          rw [decide_eq_true_iff] at u1
          subst u1
          split at u2
          · rename_i cl od3 D osl3 lkcell
            rw [decide_eq_true_iff] at u2
            subst u2
            unfold xco at r8
            obtain ⟨w1, w2⟩ := and2 r8
            split at w2
            · rename_i cda
              split at w2
              · rename_i ccl od2 vs osl2 lkc
                split at w2
                · rename_i file tf hvs
                  unfold xsc at r5
                  obtain ⟨r5, t8⟩ := and2 r5
                  obtain ⟨r5, t7⟩ := and2 r5
                  obtain ⟨r5, t6⟩ := and2 r5
                  obtain ⟨r5, t5⟩ := and2 r5
                  obtain ⟨r5, t4⟩ := and2 r5
                  obtain ⟨r5, t3⟩ := and2 r5
                  obtain ⟨t1, t2⟩ := and2 r5
                  rw [decide_eq_true_iff] at t1 t2 t3 t4 t5
                  rw [Bool.not_eq_true'] at t6 t7
                  obtain ⟨ar, e1, e2⟩ : ∃ ar, (n3.posonlyargs ++ n3.args).head? = some ar ∧ ar.arg = "self" := by
                    have r6 := r6
                    unfold xpar at r6
                    split at r6
                    · exact ⟨_, rfl, of_decide_eq_true (and2 (and2 r6).1).1⟩
                    · cases r6
                  refine ⟨fI, cc, cda, od, od2, od3, osl, osl2, osl3, n2, n3, n5, .none, .none, n10, n11, n14, ccl, cl, n12, msg, j, p0, p1, p2, p3, p4, p5, p6, p7, p8, p9, vs, file, tf, ar, hfi, lkf, w1, lkc, hvs, w2, lkcell, e1, e2, t1, t2, t3, t4, t5, t6, t7, ?_, q14, q15, s6, fun e v => rb r6 e v, fun e v => rk r6 e v⟩
                  intro y hy z
                  have := List.all_eq_true.mp t8 y hy
                  rw [z] at this
                  cases this
                · cases w2
              · cases w2
            · cases w2
          · cases u2
        · cases r7
      · cases r4
    · cases q16
  · cases q16
/-! ### all of them at once -/
def ecB (K : Frag) (D : Addr) : Bool := decide (findIn K (.ref D) "__class__" = some (some (.builtin "object.__class__"))) && decide (specialIn K (.builtin "object.__class__") "__get__" = some (some (.builtin "getset_descriptor.__get__"))) && decide (takesIn K (.builtin "object.__class__") = some true) && decide (mroIn K D (.type "object") = some true)
/-- one class -/
def xkB (prog : Program) (K : Frag) (C : Addr) (f : Str) (b : Nat) : Bool := xfB K C && ecB K C && decide (findIn K (.ref C) f = some none) && (match b with
  | 0 => xcB prog K C f "ValueError" "ValueError.__new__" "ValueError.__init__" [.type "ValueError", .type "Exception", .type "BaseException", .type "object"]
  | 1 => xcB prog K C f "OverflowError" "OverflowError.__new__" "OverflowError.__init__" [.type "OverflowError", .type "ArithmeticError", .type "Exception", .type "BaseException", .type "object"]
  | 2 => xcB prog K C f "LookupError" "LookupError.__new__" "LookupError.__init__" [.type "LookupError", .type "Exception", .type "BaseException", .type "object"]
  | _ => false)
theorem xkB_ok {prog : Program} {K : Frag} {C : Addr} {f : Str} {b : Nat} (h : xkB prog K C f b = true) : XcK prog K C f := by
  unfold xkB at h
  obtain ⟨h, h4⟩ := and2 h
  obtain ⟨h, h3⟩ := and2 h
  obtain ⟨h1, h2⟩ := and2 h
  have xf := xfB_ok h1
  unfold ecB at h2
  obtain ⟨h2, e4⟩ := and2 h2
  obtain ⟨h2, e3⟩ := and2 h2
  obtain ⟨e1, e2⟩ := and2 h2
  rw [decide_eq_true_iff] at e1 e2 e3 e4 h3
  refine ⟨?_, ⟨xf.ga, xf.gg, xf.exC, xf.hdC, e1, e2, e3, e4⟩, xf, h3⟩
  split at h4
  · exact ⟨_, _, _, _, xcB_ok F.excBase_ValueError kxs_ValueError F.store_ValueError h4⟩
  · exact ⟨_, _, _, _, xcB_ok F.excBase_OverflowError kxs_OverflowError F.store_OverflowError h4⟩
  · exact ⟨_, _, _, _, xcB_ok F.excBase_LookupError kxs_LookupError F.store_LookupError h4⟩
  · cases h4
/-- free in the module, or what p says of its address -/
def gOr (K : Frag) (x : Str) (p : Addr → Bool) : Bool := match nsIn K mainGlobals x with
  | some none => true
  | some (some (.ref a)) => p a
  | _ => false
theorem gOr_ok {K : Frag} {h : Heap} {mg : Str → Option Value} {x : Str} {p : Addr → Bool} (X : K.In h) (Gx : h.Ns mainGlobals mg) (c : gOr K x p = true) {a : Addr} (hm : mg x = some (.ref a)) : p a = true := by
  unfold gOr at c
  split at c
  · rename_i e
    have := mg_none_of X Gx e
    rw [hm] at this
    cases this
  · rename_i b e
    have := mg_of X Gx e
    rw [hm] at this
    cases this
    exact c
  · cases c
def xcsB (prog : Program) (K : Frag) : Bool := xcT.all fun p => gOr K p.1 fun a => xkB prog K a p.2.1 p.2.2
theorem xcsB_ok {prog : Program} {K : Frag} {h : Heap} {mg : Str → Option Value} (X : K.In h) (Gx : h.Ns mainGlobals mg) (c : xcsB prog K = true) : ∀ c r Ca, xcT.lookup c = some r → mg c = some (.ref Ca) → XcK prog K Ca r.1 := by
  intro x r Ca e hm
  have := List.all_eq_true.mp c _ (mem_lookup e)
  exact xkB_ok (gOr_ok X Gx this hm)
def subNs : List Str := "EvenError" :: xcT.map (·.1)
def ownB (K : Frag) : Bool := subNs.all fun x => gOr K x fun a => subNs.all fun c => gOr K c fun b => match subT x c with
  | some z => decide (kitOne K (.ref a) (.ref b) = some z)
  | none => true
def btB (K : Frag) : Bool := subNs.all fun x => gOr K x fun a => (["ValueError", "OverflowError", "LookupError"] : List String).all fun T => match subU x T with
  | some z => decide (kitOne K (.ref a) (.type T) = some z)
  | none => true
def evB (K : Frag) (C : Addr) : Bool := xfB K C && ecB K C && excInitIn K C [.type "ValueError", .type "Exception", .type "BaseException", .type "object"] "ValueError.__new__" && decide (findIn K (.ref C) "__init__" = some (some (.builtin "ValueError.__init__"))) && keepIn K (.ref C)
theorem evB_ok {K : Frag} {C : Addr} (h : evB K C = true) : EvK K C := by
  unfold evB at h
  obtain ⟨h, h5⟩ := and2 h
  obtain ⟨h, h4⟩ := and2 h
  obtain ⟨h, h3⟩ := and2 h
  obtain ⟨h1, h2⟩ := and2 h
  have xf := xfB_ok h1
  unfold ecB at h2
  obtain ⟨h2, e4⟩ := and2 h2
  obtain ⟨h2, e3⟩ := and2 h2
  obtain ⟨e1, e2⟩ := and2 h2
  rw [decide_eq_true_iff] at e1 e2 e3 e4 h4
  exact ⟨⟨_, _, _, _, F.excBase_ValueError, h3, h4, h5⟩, xf.ga, xf.gg, xf.exC, xf.hdC, e1, e2, e3, e4⟩
def subB (K : Frag) : Bool := ownB K && (btB K && gOr K "EvenError" fun a => evB K a)
theorem sub_ns {x y : Str} {b : Bool} (e : subT x y = some b) : x ∈ subNs ∧ y ∈ subNs := by
  have xc : ∀ z : Str, isXc z = true → z ∈ subNs := fun z q => by
    obtain ⟨r2, er2⟩ := Option.isSome_iff_exists.mp q
    exact List.mem_cons_of_mem _ (List.mem_map.mpr ⟨_, mem_lookup er2, rfl⟩)
  have ee : ("EvenError" : Str) ∈ subNs := List.mem_cons_self ..
  unfold subT at e
  split at e
  · rename_i q
    have hx : x ∈ subNs := List.mem_cons_of_mem _ (List.mem_map.mpr ⟨_, mem_lookup q, rfl⟩)
    refine ⟨hx, ?_⟩
    split at e
    · rename_i q2
      rw [← q2]
      exact hx
    · split at e
      · rename_i q2
        rw [q2]
        exact ee
      · split at e
        · rename_i q2
          exact xc y q2
        · cases e
  · split at e
    · rename_i q
      refine ⟨by rw [q]; exact ee, ?_⟩
      split at e
      · rename_i q2
        rw [q2]
        exact ee
      · split at e
        · rename_i q2
          exact xc y q2
        · cases e
    · cases e
theorem subU_ns {x : Str} {T : String} {b : Bool} (e : subU x T = some b) : x ∈ subNs := by
  unfold subU at e
  have xc : ∀ r, xcT.lookup x = some r → x ∈ subNs := fun r q => List.mem_cons_of_mem _ (List.mem_map.mpr ⟨_, mem_lookup q, rfl⟩)
  split at e
  · rename_i q; exact xc _ q
  · rename_i q; exact xc _ q
  · rename_i q; exact xc _ q
  · cases e
  · split at e
    · rename_i q
      rw [q]
      exact List.mem_cons_self ..
    · cases e
theorem subB_ok {K : Frag} {h : Heap} {mg : Str → Option Value} (X : K.In h) (Gx : h.Ns mainGlobals mg) (c : subB K = true) : SubA K mg := by
  unfold subB at c
  obtain ⟨c1, c⟩ := and2 c
  obtain ⟨c2, c3⟩ := and2 c
  refine ⟨fun x y b Ca Cb e m1 m2 => ?_, fun x T b Ca hT e m1 => ?_, fun Ca m => evB_ok (gOr_ok X Gx c3 m)⟩
  · obtain ⟨n1, n2⟩ := sub_ns e
    have d1 := gOr_ok X Gx (List.all_eq_true.mp c1 _ n1) m1
    have d2 := gOr_ok X Gx (List.all_eq_true.mp d1 _ n2) m2
    rw [e] at d2
    exact of_decide_eq_true d2
  · have d1 := gOr_ok X Gx (List.all_eq_true.mp c2 _ (subU_ns e)) m1
    have d2 := List.all_eq_true.mp d1 _ hT
    rw [e] at d2
    exact of_decide_eq_true d2
def exmB (K : Frag) : Bool := xcT.all fun p => gOr K p.1 fun a => decide (exmAny K (.ref a) [.ref (He.ga K "EvenError"), .ref (He.ga K "Nothing"), .ref (He.ga K "TooLong")] = some true)
theorem exmB_ok {K : Frag} {h : Heap} {mg : Str → Option Value} (X : K.In h) (Gx : h.Ns mainGlobals mg) (c : exmB K = true) : ∀ c r Ca, xcT.lookup c = some r → mg c = some (.ref Ca) → exmAny K (.ref Ca) [.ref (He.ga K "EvenError"), .ref (He.ga K "Nothing"), .ref (He.ga K "TooLong")] = some true := by
  intro x r Ca e hm
  have c1 := List.all_eq_true.mp c _ (mem_lookup e)
  exact of_decide_eq_true (gOr_ok X Gx c1 hm)
end EK

set_option Elab.async false
set_option linter.all false
set_option maxRecDepth 100000
set_option maxHeartbeats 4000000
namespace EK
open PySem L2 PySem.Spec PyProof.Rows PySem.W
/-! ### the head of a law whose defs have lambdas: its tables stay outside of what is written -/
def isTabO : Option Obj → Bool
  | some ⟨.none, _, .fields _, _⟩ => true
  | _ => false
def isT0 : Option Obj → Bool
  | some ⟨.none, none, .fields vs, sl⟩ => vs.toList.isEmpty && sl.toList.isEmpty
  | _ => false
theorem isT0_ok {o : Option Obj} (h : isT0 o = true) : o = some tab0 := by
  unfold isT0 at h
  split at h
  · rename_i vs sl
    obtain ⟨h1, h2⟩ := and2 h
    obtain ⟨vs⟩ := vs
    obtain ⟨sl⟩ := sl
    have e1 : vs = [] := List.isEmpty_iff.mp h1
    have e2 : sl = [] := List.isEmpty_iff.mp h2
    subst e1 e2
    rfl
  · cases h
def asT (g : Addr → Option Obj) (n : Nat) : List Addr := cStatics :: sysModules :: (He.asD g n).filter fun a => !isTabO (g a)
/-- a def's code object and its table -/
def tabP (K : Frag) (x : Str) : Option (Addr × Addr) := match K.lookup (He.ga K x) with
  | some ⟨_, _, .func fd, _⟩ => (match fd.code with
    | .ref c => (match K.lookup c with
      | some ⟨_, _, .fields vs, _⟩ => (match (vs[11]? : Option Value) with
        | some (.ref P) => some (c, P)
        | _ => none)
      | _ => none)
    | _ => none)
  | _ => none
def tA (K : Frag) (x : Str) : Addr × Addr := (tabP K x).getD (0, 0)
theorem tA_code {K : Frag} {x : Str} (h : (tabP K x).isSome = true) {oc : Value} {od : Option Addr} {fd : FuncData} {osl : Array (Option Value)} (l : K.lookup (He.ga K x) = some ⟨oc, od, .func fd, osl⟩) : fd.code = .ref (tA K x).1 := by
  unfold tA
  unfold tabP at h ⊢
  rw [l] at h ⊢
  dsimp only at h ⊢
  split at h
  · rename_i c hc
    split at h
    · rename_i q
      split at h
      · rename_i P e
        rw [hc]
        simp only [q, e, Option.getD_some]
      · cases h
    · cases h
  · cases h
def nodupB : List Addr → Bool
  | [] => true
  | a :: r => !r.contains a && nodupB r
theorem nodupB_ok : ∀ {l : List Addr}, nodupB l = true → l.Nodup
  | [], _ => List.nodup_nil
  | a :: r, h => by
    obtain ⟨h1, h2⟩ := and2 h
    rw [Bool.not_eq_true'] at h1
    refine List.nodup_cons.mpr ⟨fun m => ?_, nodupB_ok h2⟩
    rw [List.contains_iff_mem.mpr m] at h1
    cases h1
def tabG (g : Addr → Option Obj) (K : Frag) (xs : List Str) : Bool := (xs.all fun x => (tabP K x).isSome && codeHdIn K (tA K x).1 (tA K x).2 && (K.lookup (tA K x).2).isNone && isT0 (g (tA K x).2)) && nodupB (xs.map fun x => (tA K x).2)
abbrev AlT : Type := AlE × Bool
def obsEK (fa : List He.Fa) (fn : List He.DefD) (ex : Frag → Bool) (ts : List Str) (K : Frag) : AlE := (He.obsD fa fn K, ex K && tabsK ts K, ts.map fun x => He.dicW K (He.ga K x))
def obsT (n : Nat) (fa : List He.Fa) (fn : List He.DefD) (ex : Frag → Bool) (ts xs : List Str) (g : Addr → Option Obj) : AlT := (obsEK fa fn ex ts (He.frG g (asT g n)), tabG g (He.frG g (asT g n)) xs)
structure SaysT (fa : List He.Fa) (fn : List He.DefD) (ex : Frag → Bool) (ts xs : List Str) (w : World) (K : Frag) (h : Heap) : Prop where
  e : SaysE fa fn ex ts w K
  is : ∀ x ∈ xs, (tabP K x).isSome = true
  emp : ∀ x ∈ xs, h.get? (tA K x).2 = some tab0
  out : ∀ x ∈ xs, K.lookup (tA K x).2 = none
  code : ∀ x ∈ xs, codeHdIn K (tA K x).1 (tA K x).2 = true
  nd : (xs.map fun x => (tA K x).2).Nodup
def hookT (n : Nat) (fa : List He.Fa) (fn : List He.DefD) (ex : Frag → Bool) (ts xs : List Str) : Hook where
  α := AlT
  obs := fun s => obsT n fa fn ex ts xs s.heap.get?
  val := fun w => ((He.valD fn, true, ts.map fun x => some (He.keysIn w.params (tabKs x))), true)
  says := fun w h => ∃ K : Frag, K.In h ∧ SaysT fa fn ex ts xs w K h
  of := fun w s e => by
    have e0 : obsEK fa fn ex ts (He.frG s.heap.get? (asT s.heap.get? n)) = (He.valD fn, true, ts.map fun x => some (He.keysIn w.params (tabKs x))) := congrArg (fun z : AlT => z.1) e
    have e4 : tabG s.heap.get? (He.frG s.heap.get? (asT s.heap.get? n)) xs = true := congrArg (fun z : AlT => z.2) e
    generalize hK : He.frG s.heap.get? (asT s.heap.get? n) = K at e0 e4
    have e1 : He.obsD fa fn K = He.valD fn := congrArg (fun z : AlE => z.1) e0
    have e2 : (ex K && tabsK ts K) = true := congrArg (fun z : AlE => z.2.1) e0
    have e3 : (ts.map fun x => He.dicW K (He.ga K x)) = ts.map fun x => some (He.keysIn w.params (tabKs x)) := congrArg (fun z : AlE => z.2.2) e0
    rw [Bool.and_eq_true] at e2
    obtain ⟨e4, e5⟩ := and2 e4
    have all := List.all_eq_true.mp e4
    refine ⟨K, by rw [← hK]; exact He.frG_in, ⟨e1, e2.1, e2.2, e3⟩, fun x hx => ?_, fun x hx => ?_, fun x hx => ?_, fun x hx => ?_, nodupB_ok e5⟩
    · exact (and2 (and2 (and2 (all x hx)).1).1).1
    · exact isT0_ok (and2 (all x hx)).2
    · exact Option.isNone_iff_eq_none.mp (and2 (and2 (all x hx)).1).2
    · exact (and2 (and2 (and2 (all x hx)).1).1).2
  keeps := fun _ _ _ ⟨K, hK, c⟩ k => ⟨K, Frag.In.keeps hK k, ⟨c.e, c.is, fun x hx => k _ _ (c.emp x hx), c.out, c.code, c.nd⟩⟩
theorem obsT_eq {n : Nat} {fa : List He.Fa} {fn : List He.DefD} {ex : Frag → Bool} {ts xs : List Str} {g : Addr → Option Obj} {s : Shared} (h : ∀ a, g a = s.heap.get? a) : obsT n fa fn ex ts xs g = (hookT n fa fn ex ts xs).obs s := by
  have e : g = s.heap.get? := funext h
  rw [e]; rfl
/-! ### which tables there are -/
structure LamD where
  name : Str
  nm : List (Str × NameKind)
  qual : Str
def lamQ (q : Str) : Str := (q ++ ".<locals>.") ++ "<lambda>"
def tbOf (K : Frag) (LS : List LamD) : List (Str × NameKind) → Option (Addr × Str) := fun nm => (LS.find? fun p => decide (p.nm = nm)).map fun p => ((tA K p.name).2, lamQ p.qual)
def csOf (K : Frag) (LS : List LamD) : List (Addr × Addr) := LS.map fun p => tA K p.name
def stOf (LS : List LamD) : Sto := LS.map fun p => .tab p.nm
section
variable {fa : List He.Fa} {fn : List He.DefD} {ex : Frag → Bool} {ts : List Str} {w : World} {K : Frag} {h base : Heap} {mg : Str → Option Value} {LS : List LamD}
theorem SaysT.tabs (c : SaysT fa fn ex ts (LS.map (·.name)) w K h) (X : K.In h) : TabsAt K h (csOf K LS) := by
  have m : ∀ p ∈ csOf K LS, ∃ x ∈ LS.map (·.name), tA K x = p := fun p hp => by
    obtain ⟨q, hq, e⟩ := List.mem_map.mp hp
    exact ⟨q.name, List.mem_map_of_mem hq, e⟩
  refine ⟨fun p hp => ?_, fun p hp => ?_, fun p hp => ?_⟩ <;> obtain ⟨x, hx, rfl⟩ := m p hp
  · exact c.emp x hx
  · exact c.out x hx
  · exact codeHd_of_K X (c.code x hx)
theorem SaysT.tabH (c : SaysT fa fn ex ts (LS.map (·.name)) w K h) (tb : ∀ p ∈ csOf K LS, LamX.TabB base mg p.1 p.2) {x qual : Str} {scope : Scope} {nm : List (Str × NameKind)} (e : LS.find? (fun p => decide (p.nm = scope.names)) = some ⟨x, nm, qual⟩) :
    TabH ⟨K, mg, fldT, tbOf K LS⟩ base qual scope (He.fAd K (x, none)) := by
  intro P q z
  have z : (LS.find? fun p => decide (p.nm = scope.names)).map (fun p => ((tA K p.name).2, lamQ p.qual)) = some (P, q) := z
  rw [e] at z
  cases z
  have hm : (⟨x, nm, qual⟩ : LamD) ∈ LS := List.mem_of_find?_eq_some e
  refine ⟨rfl, (tA K x).1, fun oc od osl fd l => tA_code (c.is x (List.mem_map.mpr ⟨_, hm, rfl⟩)) l, tb _ (List.mem_map.mpr ⟨_, hm, rfl⟩)⟩
theorem tabH_no {qual : Str} {scope : Scope} {f : Addr} (e : LS.find? (fun p => decide (p.nm = scope.names)) = none) : TabH ⟨K, mg, fldT, tbOf K LS⟩ base qual scope f := by
  refine TabH.none ?_
  show (LS.find? fun p => decide (p.nm = scope.names)).map _ = none
  rw [e]; rfl
theorem tb_no {scope : Scope} (e : LS.find? (fun p => decide (p.nm = scope.names)) = none) : tbOf K LS scope.names = none := by
  show (LS.find? fun p => decide (p.nm = scope.names)).map _ = none
  rw [e]; rfl
/-- each finds itself -/
def selfB (LS : List LamD) : Bool := LS.all fun p => match LS.find? (fun q => decide (q.nm = p.nm)) with
  | some q => decide (q.name = p.name)
  | none => false
theorem law_spT (c : SaysT fa fn ex ts (LS.map (·.name)) w K h) (sf : selfB LS = true) {F : Fsem} {ns : List Int} (hF : ∃ S, F [.frz (ns.map .int)] (stOf LS) = .ok (.bl true) S) {H : Hp} {a : Addr} (inT : ∀ p ∈ csOf K LS, H p.2 = some (.tbl #[])) (na : a ∉ (csOf K LS).map (·.2))
    (hS : SqL K H a (ns.map V.int)) : spD ⟨K, mg, fldT, tbOf K LS⟩ F [.ref a] H (fun v _ => v = .bl true) fun _ _ _ => False := by
  obtain ⟨S, e⟩ := hF
  refine ⟨[.frz (ns.map .int)], ⟨(csOf K LS).map (fun p => p.2), []⟩, stOf LS, ⟨?_, ?_, fun k b o h1 h2 => ?_, fun b hb => by cases hb⟩, .cons (.inl (.frz ?_ (repA_ints ns))) .nil, ?_⟩
  · show ((csOf K LS).map (·.2)).length = (stOf LS).length
    unfold csOf stOf
    simp
  · show ((csOf K LS).map (fun p : Addr × Addr => p.2) ++ []).Nodup
    rw [List.append_nil]
    have := c.nd
    rw [List.map_map] at this
    unfold csOf
    rw [List.map_map]
    exact this
  · have h1 : ((csOf K LS).map fun p : Addr × Addr => p.2)[k]? = some b := h1
    unfold csOf at h1
    unfold stOf at h2
    rw [List.getElem?_map, List.getElem?_map] at h1
    rw [List.getElem?_map] at h2
    cases q : LS[k]? with
    | none => rw [q] at h2; cases h2
    | some p =>
      rw [q] at h1 h2
      cases h1
      cases h2
      have hm := List.mem_of_getElem? q
      have sfp := List.all_eq_true.mp sf p hm
      split at sfp
      · rename_i p2 hp2
        rw [decide_eq_true_iff] at sfp
        refine ⟨lamQ p2.qual, ?_, #[], ?_, trivial, fun pos cv z => by cases z⟩
        · show (LS.find? fun q => decide (q.nm = p.nm)).map (fun p => ((tA K p.name).2, lamQ p.qual)) = _
          rw [hp2]
          show some ((tA K p2.name).2, _) = _
          rw [sfp]
        · exact inT _ (List.mem_map.mpr ⟨p, hm, rfl⟩)
      · cases sfp
  · rcases hS with h | h
    · refine .inl ⟨h, fun z => ?_⟩
      rcases Rg.mem.mp z with z | z
      · exact na z
      · cases z
    · exact .inr h
  · rw [e]
    intro v H' n s r
    rcases r with r | ⟨_, _, z, _⟩
    · cases r; rfl
    · cases z
end
/-- what the head says of the classes -/
def smB (K : Frag) : Bool := match K.lookup sysModules with
  | some ⟨.type t, _, _, _⟩ => decide (t = "dict")
  | _ => false
theorem smB_ok {K : Frag} (h : smB K = true) : SmK K := by
  unfold smB at h
  split at h
  · rename_i t d dt sl e
    exact ⟨_, e, congrArg Value.type (of_decide_eq_true h)⟩
  · cases h
def clsB (o : Bool) (prog : Program) (K : Frag) : Bool := smB K && xcsB prog K && subB K && (!o || exmB K)
end EK

set_option Elab.async false
set_option linter.all false
set_option maxRecDepth 100000
set_option maxHeartbeats 4000000
namespace EK
open PySem L2 PySem.Spec PyProof.Rows
/-! ### running the small language -/
section
variable {d : D} {S : Sto} {k : D → Sto → R} {kA : List D → Sto → R} {kS : D → Sto → SR} {kAS : List D → Sto → SR} {ds : List D} {Γ : Gam} {c : Str} {n0 : Nat} {fr : Bool} {kG : Gam → Sto → SR}
@[simp] theorem bind_ok : (R.ok d S).bind k = k d S := rfl
@[simp] theorem bind_ex : (R.ex c d S).bind k = .ex c d S := rfl
@[simp] theorem bindA_ok : (RA.ok ds S).bind kA = kA ds S := rfl
@[simp] theorem bindA_ex : (RA.ex c d S).bind kA = .ex c d S := rfl
@[simp] theorem go_ok : (R.ok d S).go Γ kS = kS d S := rfl
@[simp] theorem go_ex : (R.ex c d S).go Γ kS = .ex c d Γ S := rfl
@[simp] theorem goA_ok : (RA.ok ds S).go Γ kAS = kAS ds S := rfl
@[simp] theorem goA_ex : (RA.ex c d S).go Γ kAS = .ex c d Γ S := rfl
@[simp] theorem then_next : (SR.next Γ S).then kG = kG Γ S := rfl
@[simp] theorem then_ret : (SR.ret d S fr).then kG = .ret d S fr := rfl
@[simp] theorem then_ex : (SR.ex c d Γ S).then kG = .ex c d Γ S := rfl
@[simp] theorem lift_some : R.lift (some d) S = .ok d S := rfl
@[simp] theorem outR_next : outR n0 (.next Γ S) = .ok .non (S.take n0) := rfl
@[simp] theorem outR_ret : outR n0 (.ret d S fr) = .ok (outD n0 S d) (S.take n0) := rfl
@[simp] theorem outR_ex : outR n0 (.ex c d Γ S) = .ex c d (S.take n0) := rfl
@[simp] theorem outF_ret : outF n0 (.ret d S true) = .ok d (S.take n0) := rfl
@[simp] theorem outF_ex : outF n0 (.ex c d Γ S) = .ex c d (S.take n0) := rfl
end
section
variable {S : Sto} {b : Bool} {i j : Int} {s t : List Nat} {xs ys : List D} {es : List (Key × D)} {k n0 : Nat} {Γ : Gam} {f : Str} {o : O}
@[simp] theorem vw_non : vw S .non = .non := rfl
@[simp] theorem vw_bl : vw S (.bl b) = .bl b := rfl
@[simp] theorem vw_int : vw S (.int i) = .int i := rfl
@[simp] theorem vw_str : vw S (.str s) = .str s := rfl
@[simp] theorem vw_tup : vw S (.tup xs) = .tup xs := rfl
@[simp] theorem vw_lst : vw S (.lst xs) = .lst xs := rfl
@[simp] theorem vw_dic : vw S (.dic es) = .dic es := rfl
@[simp] theorem vw_fn : vw S (.fn f) = .fn f := rfl
@[simp] theorem vw_frz : vw S (.frz xs) = .frz xs := rfl
@[simp] theorem vw_last : vw (S ++ [o]) (.loc S.length) = ofO o := by
  unfold vw
  dsimp only
  rw [List.getElem?_append_right (Nat.le_refl _), Nat.sub_self]
  cases o <;> rfl
@[simp] theorem vw_zero {o : O} : vw (o :: S) (.loc 0) = ofO o := by cases o <;> rfl
@[simp] theorem outD_non : outD n0 S .non = .non := rfl
@[simp] theorem outD_bl : outD n0 S (.bl b) = .bl b := rfl
@[simp] theorem outD_int : outD n0 S (.int i) = .int i := rfl
@[simp] theorem outD_str : outD n0 S (.str s) = .str s := rfl
@[simp] theorem outD_tup : outD n0 S (.tup xs) = .tup xs := rfl
@[simp] theorem outD_lst : outD n0 S (.lst xs) = .lst xs := rfl
@[simp] theorem outD_dic : outD n0 S (.dic es) = .dic es := rfl
@[simp] theorem noLoc_non : noLoc .non = true := rfl
@[simp] theorem noLoc_bl : noLoc (.bl b) = true := rfl
@[simp] theorem noLoc_int : noLoc (.int i) = true := rfl
@[simp] theorem noLoc_str : noLoc (.str s) = true := rfl
@[simp] theorem noLoc_tup : noLoc (.tup xs) = true := rfl
@[simp] theorem noLoc_lst : noLoc (.lst xs) = true := rfl
@[simp] theorem noLoc_dic : noLoc (.dic es) = true := rfl
@[simp] theorem ofO_lst : ofO (.lst xs) = .lst xs := rfl
@[simp] theorem ofO_dic : ofO (.dic es) = .dic es := rfl
@[simp] theorem asOwn_lst : asOwn Γ S k (.lst xs) = some (Γ.set k (some (.loc S.length)), S ++ [.lst xs]) := rfl
@[simp] theorem asOwn_dic : asOwn Γ S k (.dic es) = some (Γ.set k (some (.loc S.length)), S ++ [.dic es]) := rfl
@[simp] theorem get_last : (S ++ [o])[S.length]? = some o := by rw [List.getElem?_append_right (Nat.le_refl _), Nat.sub_self]; rfl
@[simp] theorem set_last {o' : O} : (S ++ [o]).set S.length o' = S ++ [o'] := by rw [List.set_append_right _ _ (Nat.le_refl _), Nat.sub_self]; rfl
@[simp] theorem take_last : (S ++ [o]).take S.length = S := by rw [List.take_append_of_le_length (Nat.le_refl _), List.take_length]
@[simp] theorem take_all : (S ++ [o]).take (S.length + 1) = S ++ [o] := List.take_of_length_le (by simp)
@[simp] theorem len_last : (S ++ [o]).length = S.length + 1 := by simp
@[simp] theorem add_int : addD (.int i) (.int j) = some (.int (i + j)) := rfl
@[simp] theorem sub_int : subD (.int i) (.int j) = some (.int (i - j)) := rfl
@[simp] theorem neg_int : negD (.int i) = some (.int (-i)) := rfl
@[simp] theorem part_non {d : D} : partI (.con .non) d = some none := rfl
theorem part_int {c : CE} (h : nonC c = false) : partI c (.int i) = some (some i) := by simp [partI, h]
@[simp] theorem part_var {m : Nat} : partI (.var m) (.int i) = some (some i) := rfl
@[simp] theorem part_conI {j : Int} : partI (.con (.int j)) (.int i) = some (some i) := rfl
@[simp] theorem part_bin {op : Operator} {a b : CE} : partI (.bin op a b) (.int i) = some (some i) := rfl
@[simp] theorem part_neg {a : CE} : partI (.neg a) (.int i) = some (some i) := rfl
@[simp] theorem nonC_int : nonC (.con (.int i)) = false := rfl
@[simp] theorem nonC_var : nonC (.var k) = false := rfl
@[simp] theorem nonC_bin {op : Operator} {a b : CE} : nonC (.bin op a b) = false := rfl
@[simp] theorem cmp_eqI : cmpD .Eq (.int i) (.int j) = some (.bl (decide (i = j))) := rfl
@[simp] theorem cmp_eqS : cmpD .Eq (.str s) (.str t) = some (.bl (decide (s = t))) := rfl
end
@[simp] theorem m_it_lst {xs : List D} : itD .seq [.lst xs] = some xs := rfl
@[simp] theorem m_it_tup {xs : List D} : itD .seq [.tup xs] = some xs := rfl
@[simp] theorem m_it_frz {xs : List D} : itD .seq [.frz xs] = some xs := rfl
@[simp] theorem m_it_str {s : List Nat} : itD .seq [.str s] = some (s.map fun c => .str [c]) := rfl
@[simp] theorem m_it_zip {xs ys : List D} : itD .zip [.lst xs, .lst ys] = some (pairs xs ys) := rfl
@[simp] theorem m_it_enm {xs : List D} : itD .enm [.lst xs] = some (enumFrom 0 xs) := rfl
theorem it_rng1 {n : Int} {m : Nat} (h : in62 n = true) (e : n.toNat = m) : itD .rng [.int n] = some (rngL 0 m) := by
  show (if in62 n = true then some (rngL 0 n.toNat) else none) = _
  rw [if_pos h, e]
theorem it_rng2 {a b : Int} {m : Nat} (h : in62 a = true) (h2 : in62 b = true) (e : (b - a).toNat = m) : itD .rng [.int a, .int b] = some (rngL a m) := by
  show (if in62 a = true ∧ in62 b = true then some (rngL a (b - a).toNat) else none) = _
  rw [if_pos ⟨h, h2⟩, e]
theorem lenS {s : List Nat} (h : s.length ≤ szL) : lenD [.str s] = some (.int s.length) := by
  show (if s.length ≤ szL then some (D.int s.length) else none) = _
  rw [if_pos h]
@[simp] theorem len_lst {xs : List D} : lenD [.lst xs] = some (.int xs.length) := rfl
@[simp] theorem len_tup {xs : List D} : lenD [.tup xs] = some (.int xs.length) := rfl
@[simp] theorem len_frz {xs : List D} : lenD [.frz xs] = some (.int xs.length) := rfl
def thaw1 (k : Nat) (d : D) : Option D → Option D := fun o => match o with
  | some (.loc j) => if j = k then some d else some (.loc j)
  | o => o
@[simp] theorem thaw_nil {k : Nat} {d : D} : thaw k d [] = [] := rfl
@[simp] theorem thaw_cons {k : Nat} {d : D} {o : Option D} {Γ : Gam} : thaw k d (o :: Γ) = thaw1 k d o :: thaw k d Γ := rfl
@[simp] theorem thaw1_none {k : Nat} {d : D} : thaw1 k d none = none := rfl
@[simp] theorem thaw1_same {k : Nat} {d : D} : thaw1 k d (some (.loc k)) = some d := by
  show (if k = k then some d else some (.loc k)) = _
  rw [if_pos rfl]
@[simp] theorem thaw1_non {k : Nat} {d : D} : thaw1 k d (some .non) = some .non := rfl
@[simp] theorem thaw1_bl {k : Nat} {d : D} {b : Bool} : thaw1 k d (some (.bl b)) = some (.bl b) := rfl
@[simp] theorem thaw1_int {k : Nat} {d : D} {b : Int} : thaw1 k d (some (.int b)) = some (.int b) := rfl
@[simp] theorem thaw1_str {k : Nat} {d : D} {b : List Nat} : thaw1 k d (some (.str b)) = some (.str b) := rfl
@[simp] theorem thaw1_lst {k : Nat} {d : D} {b : List D} : thaw1 k d (some (.lst b)) = some (.lst b) := rfl
@[simp] theorem thaw1_tup {k : Nat} {d : D} {b : List D} : thaw1 k d (some (.tup b)) = some (.tup b) := rfl
@[simp] theorem thaw1_frz {k : Nat} {d : D} {b : List D} : thaw1 k d (some (.frz b)) = some (.frz b) := rfl
@[simp] theorem thaw1_dic {k : Nat} {d : D} {b : List (Key × D)} : thaw1 k d (some (.dic b)) = some (.dic b) := rfl
@[simp] theorem recv_ix {xs : List D} : recvB .index (.lst xs) = true := rfl
@[simp] theorem recv_jo {s : List Nat} : recvB .join (.str s) = true := rfl
@[simp] theorem mf_ix {a b : D} : mfSem .index a b = indexD a b := rfl
@[simp] theorem mf_jo {a b : D} : mfSem .join a b = joinD a b := rfl
@[simp] theorem cmp_gt {i j : Int} : cmpD .Gt (.int i) (.int j) = some (.bl (decide (j < i))) := rfl
@[simp] theorem cmp_lt {i j : Int} : cmpD .Lt (.int i) (.int j) = some (.bl (decide (i < j))) := rfl
@[simp] theorem cmp_ge {i j : Int} : cmpD .GtE (.int i) (.int j) = some (.bl (!decide (i < j))) := rfl
@[simp] theorem cmp_le {i j : Int} : cmpD .LtE (.int i) (.int j) = some (.bl (!decide (j < i))) := rfl
@[simp] theorem int_int {i : Int} : intD [.int i] = some (.int i) := rfl
/-! the draws -/
def dr (cs : List Int) (l s : Int) : List (Key × D) := [(.inr "cells", .lst (cs.map .int)), (.inr "left", .int l), (.inr "spot", .int s)]
@[simp] theorem dr_cells {cs : List Int} {l s : Int} : idxD (.dic (dr cs l s)) (.str [99, 101, 108, 108, 115]) = some (.lst (cs.map .int)) := rfl
@[simp] theorem dr_left {cs : List Int} {l s : Int} : idxD (.dic (dr cs l s)) (.str [108, 101, 102, 116]) = some (.int l) := rfl
@[simp] theorem dr_spot {cs : List Int} {l s : Int} : idxD (.dic (dr cs l s)) (.str [115, 112, 111, 116]) = some (.int s) := rfl
@[simp] theorem key_str {s : List Nat} : keyD (.str s) = some (.inr ⟨s.toArray⟩) := rfl
@[simp] theorem dr_pleft {cs : List Int} {l s x : Int} : putKD (dr cs l s) (.inr ⟨#[108, 101, 102, 116]⟩) (.int x) = dr cs x s := rfl
@[simp] theorem dr_pspot {cs : List Int} {l s x : Int} : putKD (dr cs l s) (.inr ⟨#[115, 112, 111, 116]⟩) (.int x) = dr cs l x := rfl
@[simp] theorem dr_len {cs : List Int} {l s : Int} : (dr cs l s).length = 3 := rfl
theorem mod_pos {i j : Int} (h : 0 < j) : modD (.int i) (.int j) = some (.int (i % j)) := by simp [modD, h]
theorem fdiv_pos {i j : Int} (h : 0 < j) (h2 : j < 2 ^ 63) : fdivD (.int i) (.int j) = some (.int (i / j)) := by
  show (if 0 < j ∧ j.natAbs.log2 < 9000 then some (D.int (i / j)) else none) = _
  rw [if_pos]
  refine ⟨h, ?_⟩
  have : j.natAbs < 2 ^ 63 := by omega
  have := (Nat.log2_lt (by omega : j.natAbs ≠ 0)).mpr this
  omega
theorem mul_l {i j : Int} (h : smallI i = true) : mulD (.int i) (.int j) = some (.int (i * j)) := by simp [mulD, mulOkB, h]
theorem mul_r {i j : Int} (h : smallI j = true) : mulD (.int i) (.int j) = some (.int (i * j)) := by simp [mulD, mulOkB, h]
theorem small_of {i : Int} (h : 0 ≤ i) (h2 : i < 2 ^ 63) : smallI i = true := by rw [smallI_iff]; omega
theorem at_of {α : Type} {ds : List α} {i : Int} (h0 : 0 ≤ i) (h : i < ds.length) : atI ds i = some (ds[i.toNat]'(by omega)) := by
  unfold atI ixN
  rw [if_pos h0, if_pos h]
  exact List.getElem?_eq_getElem (by omega)
def bDraw : List CS := [.ite (.cmp .Gt (.idx (.var 0) (.con (.str [108, 101, 102, 116]))) (.con (.int 0))) [.set (.one 5) (.bin .Mod (.blt .int [.idx (.var 0) (.con (.str [108, 101, 102, 116]))]) (.var 1)),
  .putD 0 (.con (.str [108, 101, 102, 116])) (.bin .FloorDiv (.idx (.var 0) (.con (.str [108, 101, 102, 116]))) (.var 1)),
  .ret (.var 5)] [],
  .set (.one 2) (.bin .Add (.idx (.var 0) (.con (.str [115, 112, 111, 116]))) (.con (.int 1))),
  .putD 0 (.con (.str [115, 112, 111, 116])) (.var 2),
  .set (.one 3) (.idx (.idx (.var 0) (.con (.str [99, 101, 108, 108, 115]))) (.bin .Mod (.blt .int [.var 2]) (.blt .len [.idx (.var 0) (.con (.str [99, 101, 108, 108, 115]))]))),
  .set (.one 4) (.bin .Mult (.blt .int [.bin .Add (.bin .Add (.bin .Mod (.blt .int [.var 3]) (.con (.int 2147483629))) (.bin .Mult (.con (.int 6133)) (.var 2))) (.bin .Mult (.bin .Mult (.con (.int 23)) (.var 2)) (.var 2))]) (.con (.int 48271))),
  .set (.one 4) (.bin .Mult (.blt .int [.bin .Add (.bin .Mod (.blt .int [.var 4]) (.con (.int 2147483647))) (.bin .Mult (.con (.int 93241)) (.var 2))]) (.con (.int 69621))),
  .ret (.bin .Mod (.blt .int [.bin .FloorDiv (.bin .Mod (.blt .int [.var 4]) (.con (.int 2147483587))) (.con (.int 13))]) (.var 1))]
/-- what stands in the store ahead of the draws' state: the tables of lambdas -/
class TS where
  T : Sto
  R : Sto
def TS.n [TS] : Nat := TS.T.length + (TS.R.length + 1)
section
variable {S R : Sto} {o o' : O}
@[simp] theorem vw_mid : vw (S ++ o :: R) (.loc S.length) = ofO o := by
  unfold vw
  dsimp only
  rw [List.getElem?_append_right (Nat.le_refl _), Nat.sub_self]
  cases o <;> rfl
@[simp] theorem get_mid : (S ++ o :: R)[S.length]? = some o := by rw [List.getElem?_append_right (Nat.le_refl _), Nat.sub_self]; rfl
@[simp] theorem set_mid : (S ++ o :: R).set S.length o' = S ++ o' :: R := by rw [List.set_append_right _ _ (Nat.le_refl _), Nat.sub_self]; rfl
@[simp] theorem take_mid : (S ++ o :: R).take (S.length + (R.length + 1)) = S ++ o :: R := List.take_of_length_le (by simp)
end
/-- a draw: its answer lies below the limit -/
theorem draw_ok [TS] {Φ Φf : Str → Option Fsem} {G : Str → Option D} {fuel : Nat} {cs : List Int} {l s lim : Int} (hc : cs ≠ []) (hs : 0 ≤ s) (hs2 : s < 2 ^ 60) (hl : 0 < lim) (hl2 : lim < 2 ^ 60) :
    ∃ (r l' s' : Int), fsem Φ Φf G fuel 2 6 bDraw [.loc TS.T.length, .int lim] (TS.T ++ .dic (dr cs l s) :: TS.R) = .ok (.int r) (TS.T ++ .dic (dr cs l' s') :: TS.R) ∧ 0 ≤ r ∧ r < lim ∧ s ≤ s' ∧ s' ≤ s + 1 := by
  by_cases h : 0 < l
  · refine ⟨l % lim, l / lim, s, ?_, Int.emod_nonneg _ (by omega), Int.emod_lt_of_pos _ hl, by omega, by omega⟩
    simp [bDraw, h, mod_pos hl, fdiv_pos hl (by omega), szL]
  · have hm : (0 : Int) < (cs.length : Int) := by
      have := List.length_pos_iff.mpr hc; omega
    have b1 := Int.emod_nonneg (s + 1) (by omega : (cs.length : Int) ≠ 0)
    have b2 := Int.emod_lt_of_pos (s + 1) hm
    have hat : idxD (.lst (cs.map .int)) (.int ((s + 1) % (cs.length : Int))) = some (.int (cs[((s + 1) % (cs.length : Int)).toNat]'(by omega))) := by
      show atI _ _ = _
      rw [at_of b1 (by simpa using b2)]
      simp
    refine ⟨(((cs[((s + 1) % (cs.length : Int)).toNat]'(by omega) % 2147483629 + 6133 * (s + 1) + 23 * (s + 1) * (s + 1)) * 48271 % 2147483647 + 93241 * (s + 1)) * 69621 % 2147483587 / 13) % lim, l, s + 1, ?_, Int.emod_nonneg _ (by omega), Int.emod_lt_of_pos _ hl, by omega, by omega⟩
    simp [bDraw, h, lenD, mod_pos hm, hat, mod_pos hl, mod_pos, fdiv_pos, mul_l (i := 6133) (by decide), mul_l (i := 23) (by decide), mul_l (i := 93241) (by decide), mul_r (j := 48271) (by decide), mul_r (j := 69621) (by decide), mul_r (j := s + 1) (small_of (by omega) (by omega)), szL]

/-- the state of the draws: at most b of them were made -/
def DS [TS] (b : Int) (S : Sto) : Prop := ∃ cs l s, S = (TS.T ++ .dic (dr cs l s) :: TS.R) ∧ cs ≠ [] ∧ 0 ≤ s ∧ s ≤ b
theorem DS.mono [TS] {b c : Int} {S : Sto} (h : DS b S) (hb : b ≤ c) : DS c S := by
  obtain ⟨cs, l, s, e, h1, h2, h3⟩ := h
  exact ⟨cs, l, s, e, h1, h2, by omega⟩
def DrawOk [TS] (F : Fsem) : Prop := ∀ (b lim : Int) (S : Sto), DS b S → b < 2 ^ 50 → 0 < lim → lim < 2 ^ 60 → ∃ r S', F [.loc TS.T.length, .int lim] S = .ok (.int r) S' ∧ 0 ≤ r ∧ r < lim ∧ DS (b + 1) S'
theorem drawOk [TS] {Φ Φf : Str → Option Fsem} {G : Str → Option D} {fuel : Nat} : DrawOk (fsem Φ Φf G fuel 2 6 bDraw) := by
  intro b lim S ⟨cs, l, s, e, h1, h2, h3⟩ hb hl hl2
  subst e
  obtain ⟨r, l', s', e, q1, q2, q3, q4⟩ := draw_ok (Φ := Φ) (Φf := Φf) (G := G) (fuel := fuel) (l := l) (lim := lim) h1 h2 (by omega) hl hl2
  exact ⟨r, _, e, q1, q2, cs, l', s', rfl, h1, by omega, by omega⟩
def bOf : List CS := [.ret (.idx (.var 1) (.call "_law_draw" [.var 0, .blt .len [.var 1]]))]
def OfOk [TS] (F : Fsem) : Prop := (∀ (b : Int) (xs : List D) (S : Sto), DS b S → b < 2 ^ 50 → xs ≠ [] → xs.length < 2 ^ 60 → (∀ x ∈ xs, noLoc x = true) → ∃ x S', x ∈ xs ∧ F [.loc TS.T.length, .lst xs] S = .ok x S' ∧ DS (b + 1) S') ∧
  ∀ (b : Int) (w : List Nat) (S : Sto), DS b S → b < 2 ^ 50 → w ≠ [] → w.length ≤ szL → ∃ x S', x ∈ w ∧ F [.loc TS.T.length, .str w] S = .ok (.str [x]) S' ∧ DS (b + 1) S'
theorem take1 [TS] {b : Int} {S : Sto} (h : DS b S) : S.take (TS.n) = S ∧ S.length = TS.n := by
  obtain ⟨cs, l, s, e, _⟩ := h
  subst e
  simp [TS.n]
theorem outD_no {n0 : Nat} {S : Sto} {d : D} (h : noLoc d = true) : outD n0 S d = d := by
  cases d with
  | loc k => cases h
  | _ => rfl
theorem vw_no {S : Sto} {d : D} (h : noLoc d = true) : vw S d = d := by
  cases d with
  | loc k => cases h
  | _ => rfl
theorem ofOk [TS] {Φ Φf : Str → Option Fsem} {G : Str → Option D} {fuel : Nat} {F : Fsem} (h : Φ "_law_draw" = some F) (hF : DrawOk F) : OfOk (fsem Φ Φf G fuel 2 2 bOf) := by
  constructor
  · intro b xs S hd hb hx hl hn
    have hp := List.length_pos_iff.mpr hx
    obtain ⟨r, S', e, q1, q2, q3⟩ := hF b xs.length S hd hb (by omega) (by omega)
    have t := take1 q3
    have t0 := take1 hd
    refine ⟨xs[r.toNat]'(by omega), S', List.getElem_mem _, ?_, q3⟩
    have hat : idxD (.lst xs) (.int r) = some (xs[r.toNat]'(by omega)) := at_of q1 (by omega)
    simp [bOf, lenD, h, e, hat, t0.2, t.1]
    exact outD_no (hn _ (List.getElem_mem _))
  · intro b w S hd hb hx hl
    have hp := List.length_pos_iff.mpr hx
    have hz : w.length ≤ 16777216 := hl
    obtain ⟨r, S', e, q1, q2, q3⟩ := hF b w.length S hd hb (by omega) (by omega)
    have t := take1 q3
    have t0 := take1 hd
    refine ⟨w[r.toNat]'(by omega), S', List.getElem_mem _, ?_, q3⟩
    have hat : idxD (.str w) (.int r) = some (.str [w[r.toNat]'(by omega)]) := by
      show (if w.length ≤ szL then (atI w r).map fun c => D.str [c] else none) = _
      rw [if_pos hl, at_of q1 (by omega)]
      rfl
    simp [bOf, lenD, h, e, hat, t0.2, t.1, hl]
/-! ### comprehensions -/
theorem lc_filter {cond elt : Gam → Sto → R} {tg : Tg} {Γ : Gam} {S : Sto} {p : D → Bool} {f : D → D} : ∀ {xs acc : List D}, (∀ x ∈ xs, ∃ Γ', setTg tg x Γ = some Γ' ∧ cond Γ' S = .ok (.bl (p x)) S ∧ (p x = true → elt Γ' S = .ok (f x) S ∧ noLoc (f x) = true)) →
    lcLoop cond elt tg Γ xs acc S = .ok (.lst (acc ++ (xs.filter p).map f)) S
  | [], acc, _ => by simp [lcLoop]
  | x :: xs, acc, h => by
    obtain ⟨Γ', h1, h2, h3⟩ := h x (List.mem_cons_self ..)
    have ih := fun acc => lc_filter (xs := xs) (acc := acc) fun y hy => h y (List.mem_cons_of_mem _ hy)
    unfold lcLoop
    rw [h1]
    dsimp only
    rw [h2]
    cases hp : p x with
    | true =>
      obtain ⟨h3, h4⟩ := h3 hp
      dsimp only
      rw [h3]
      dsimp only
      rw [if_pos h4, ih, List.filter_cons_of_pos hp]
      simp
    | false =>
      dsimp only
      rw [ih, List.filter_cons_of_neg (by simp [hp])]
theorem lc_map {cond elt : Gam → Sto → R} {tg : Tg} {Γ : Gam} {S : Sto} {f : D → D} {xs acc : List D} (h : ∀ x ∈ xs, ∃ Γ', setTg tg x Γ = some Γ' ∧ cond Γ' S = .ok (.bl true) S ∧ elt Γ' S = .ok (f x) S ∧ noLoc (f x) = true) :
    lcLoop cond elt tg Γ xs acc S = .ok (.lst (acc ++ xs.map f)) S := by
  rw [lc_filter (p := fun _ => true) (f := f) fun x hx => by obtain ⟨Γ', h1, h2, h3⟩ := h x hx; exact ⟨Γ', h1, h2, fun _ => h3⟩]
  rw [List.filter_eq_self.mpr fun _ _ => rfl]
theorem lc_ind {cond elt : Gam → Sto → R} {tg : Tg} {Γ : Gam} {I : List D → Sto → Prop} : ∀ {xs acc : List D} {S : Sto}, I acc S → (∀ x ∈ xs, ∀ acc S, I acc S → ∃ Γ' d S', setTg tg x Γ = some Γ' ∧ cond Γ' S = .ok (.bl true) S ∧ elt Γ' S = .ok d S' ∧ noLoc d = true ∧ I (acc ++ [d]) S') →
    ∃ out S', lcLoop cond elt tg Γ xs acc S = .ok (.lst out) S' ∧ I out S'
  | [], acc, S, h0, _ => ⟨acc, S, by simp [lcLoop], h0⟩
  | x :: xs, acc, S, h0, h => by
    obtain ⟨Γ', d, S', h1, h2, h3, h4, h5⟩ := h x (List.mem_cons_self ..) acc S h0
    obtain ⟨out, S2, e, q⟩ := lc_ind (xs := xs) h5 fun y hy => h y (List.mem_cons_of_mem _ hy)
    refine ⟨out, S2, ?_, q⟩
    unfold lcLoop
    rw [h1]
    dsimp only
    rw [h2]
    dsimp only
    rw [h3]
    dsimp only
    rw [if_pos h4, e]
/-! ### loops -/
theorem loop_ind {body : Gam → Sto → SR} {tg : Tg} {post : SR → Prop} {I : Nat → Gam → Sto → Prop} : ∀ {items : List D} {n : Nat} {Γ : Gam} {S : Sto}, I n Γ S →
    (∀ i x Γ S, items[i]? = some x → I (n + i) Γ S → ∃ Γ', setTg tg x Γ = some Γ' ∧ ((∃ Γ2 S2, body Γ' S = .next Γ2 S2 ∧ I (n + i + 1) Γ2 S2) ∨ (∃ d S2 fr, body Γ' S = .ret d S2 fr ∧ post (.ret d S2 fr)))) →
    (∀ Γ S, I (n + items.length) Γ S → post (.next Γ S)) → post (loopN body tg items Γ S)
  | [], n, Γ, S, h0, _, hf => by unfold loopN; exact hf Γ S h0
  | x :: xs, n, Γ, S, h0, h, hf => by
    unfold loopN
    obtain ⟨Γ', e1, q⟩ := h 0 x Γ S rfl h0
    rw [e1]
    dsimp only
    rcases q with ⟨Γ2, S2, e2, q⟩ | ⟨d, S2, fr, e2, q⟩
    · rw [e2]
      refine loop_ind (n := n + 1) (I := I) q (fun i y Γ S hi hI => ?_) fun Γ S hI => hf Γ S ?_
      · have := h (i + 1) y Γ S (by simpa using hi) (by have e : n + (i + 1) = n + 1 + i := by omega
                                                        rw [e]; exact hI)
        have e : n + (i + 1) + 1 = n + 1 + i + 1 := by omega
        rw [e] at this
        exact this
      · have e : n + (x :: xs).length = n + 1 + xs.length := by rw [List.length_cons]; omega
        rw [e]; exact hI
    · rw [e2]
      exact q
theorem loop0 {body : Gam → Sto → SR} {tg : Tg} {items : List D} (I : Nat → Gam → Sto → Prop) (post : SR → Prop) {Γ : Gam} {S : Sto} (h0 : I 0 Γ S)
    (h : ∀ i x Γ S, items[i]? = some x → I i Γ S → ∃ Γ', setTg tg x Γ = some Γ' ∧ ((∃ Γ2 S2, body Γ' S = .next Γ2 S2 ∧ I (i + 1) Γ2 S2) ∨ (∃ d S2 fr, body Γ' S = .ret d S2 fr ∧ post (.ret d S2 fr))))
    (hf : ∀ Γ S, I items.length Γ S → post (.next Γ S)) : post (loopN body tg items Γ S) :=
  loop_ind (n := 0) h0 (fun i x Γ S e q => by rw [Nat.zero_add] at q ⊢; exact h i x Γ S e q) (fun Γ S q => by rw [Nat.zero_add] at q; exact hf Γ S q)
theorem lc_at {α : Type} {cond elt : Gam → Sto → R} {tg : Tg} {Γ : Gam} {S : Sto} (it f : α → D) : ∀ (ks : List α) (acc : List D), (∀ k ∈ ks, ∃ Γ', setTg tg (it k) Γ = some Γ' ∧ cond Γ' S = .ok (.bl true) S ∧ elt Γ' S = .ok (f k) S ∧ noLoc (f k) = true) →
    lcLoop cond elt tg Γ (ks.map it) acc S = .ok (.lst (acc ++ ks.map f)) S
  | [], acc, _ => by simp [lcLoop]
  | k :: ks, acc, h => by
    obtain ⟨Γ', h1, h2, h3, h4⟩ := h k (List.mem_cons_self ..)
    rw [List.map_cons]
    unfold lcLoop
    rw [h1]
    dsimp only
    rw [h2]
    dsimp only
    rw [h3]
    dsimp only
    rw [if_pos h4, lc_at it f ks _ fun y hy => h y (List.mem_cons_of_mem _ hy)]
    simp
theorem ints_map : ∀ xs : List Int, intsOf (xs.map .int) = some xs
  | [] => rfl
  | x :: xs => by
    show (intsOf (xs.map .int)).map (x :: ·) = _
    rw [ints_map xs]; rfl
theorem min_ints {xs : List Int} (h : xs ≠ []) : ∃ m, minD [.lst (xs.map .int)] = some (.int m) ∧ m ∈ xs ∧ ∀ x ∈ xs, m ≤ x := by
  cases xs with
  | nil => exact absurd rfl h
  | cons n ns =>
    obtain ⟨h1, h2, h3⟩ := foldl_min_le ns n
    refine ⟨ns.foldl min n, ?_, ?_, ?_⟩
    · show (match intsOf ((n :: ns).map .int) with | some (n :: ns) => some (D.int (ns.foldl min n)) | _ => _) = _
      rw [ints_map]
    · rcases h3 with h3 | h3
      · rw [h3]; exact List.mem_cons_self ..
      · exact List.mem_cons_of_mem _ h3
    · intro x hx
      rcases List.mem_cons.mp hx with rfl | hx
      · exact h1
      · exact h2 x hx
theorem max_ints {xs : List Int} (h : xs ≠ []) : ∃ m, maxD [.lst (xs.map .int)] = some (.int m) ∧ m ∈ xs ∧ ∀ x ∈ xs, x ≤ m := by
  cases xs with
  | nil => exact absurd rfl h
  | cons n ns =>
    obtain ⟨h1, h2, h3⟩ := foldl_max_ge ns n
    refine ⟨ns.foldl max n, ?_, ?_, ?_⟩
    · show (match intsOf ((n :: ns).map .int) with | some (n :: ns) => some (D.int (ns.foldl max n)) | _ => _) = _
      rw [ints_map]
    · rcases h3 with h3 | h3
      · rw [h3]; exact List.mem_cons_self ..
      · exact List.mem_cons_of_mem _ h3
    · intro x hx
      rcases List.mem_cons.mp hx with rfl | hx
      · exact h1
      · exact h2 x hx
theorem flat_ints (xs : List Int) : (xs.map D.int).all flatD = true := by
  rw [List.all_eq_true]
  intro d hd
  obtain ⟨x, _, rfl⟩ := List.mem_map.mp hd
  rfl
theorem index_int {xs : List Int} {m : Int} (h : m ∈ xs) : ∃ j : Nat, indexD (.lst (xs.map .int)) (.int m) = some (.int j) ∧ xs[j]? = some m := by
  have e : ((xs.map D.int).findIdx? fun x => eqFl x (.int m)) = xs.findIdx? fun x => x == m := by
    rw [List.findIdx?_map]; rfl
  cases q : xs.findIdx? fun x => x == m with
  | none =>
    rw [List.findIdx?_eq_none_iff] at q
    have := q m h
    simp at this
  | some j =>
    refine ⟨j, ?_, ?_⟩
    · show (if flatD (.int m) = true ∧ (xs.map D.int).all flatD = true then ((xs.map D.int).findIdx? fun x => eqFl x (.int m)).map fun j => D.int (j : Nat) else none) = _
      rw [if_pos ⟨rfl, flat_ints xs⟩, e, q]; rfl
    · obtain ⟨hj, h1, _⟩ := List.findIdx?_eq_some_iff_getElem.mp q
      rw [List.getElem?_eq_getElem hj]
      simpa using h1
theorem in62_of {n : Int} (h : 0 ≤ n) (h2 : n < 2 ^ 62) : in62 n = true := by
  rw [in62_iff]
  omega
theorem rng0 {n : Nat} : rngL 0 n = (List.range n).map fun i : Nat => D.int (i : Int) := by
  unfold rngL
  simp
theorem rng_len {a : Int} {n : Nat} : (rngL a n).length = n := by simp [rngL]
theorem rngAt {a : Int} {n i : Nat} {x : D} (h : (rngL a n)[i]? = some x) : i < n ∧ x = .int (a + i) := by
  have h1 := (List.getElem?_eq_some_iff.mp h).1
  rw [rng_len] at h1
  unfold rngL at h
  rw [List.getElem?_map, List.getElem?_range h1] at h
  exact ⟨h1, (Option.some.inj h).symm⟩
theorem map_ints {α : Type} (f : α → Int) (ks : List α) : (ks.map f).map D.int = ks.map fun k => D.int (f k) := by rw [List.map_map]; rfl
end EK

set_option Elab.async false
set_option linter.all false
set_option maxRecDepth 100000
set_option maxHeartbeats 4000000
namespace EK
open PySem L2 PySem.Spec PyProof.Rows
/-! ### words -/
def Wd (w : List Nat) : Prop := ∀ c ∈ w, c = 97 ∨ c = 98
def cnt (w : List Nat) (i : Nat) : Int := ((w.take i).count 98 : Nat)
def win (w : List Nat) (s p : Nat) : Int := cnt w (p + s) - cnt w p
def hL (w : List Nat) (i : Nat) : List Int := (List.range (i + 1)).map fun j => cnt w j
def Wn (w : List Nat) (s : Nat) : List Int := (List.range (w.length + 1 - s)).map fun p => win w s p
theorem cnt_zero (w : List Nat) : cnt w 0 = 0 := by simp [cnt]
theorem cnt_succ {w : List Nat} {i : Nat} {c : Nat} (h : w[i]? = some c) : cnt w (i + 1) = cnt w i + (if c = 98 then 1 else 0) := by
  unfold cnt
  rw [List.take_add_one, h]
  simp only [Option.toList_some, List.count_append, List.count_singleton]
  by_cases hc : c = 98 <;> simp [hc]
theorem hL_len (w : List Nat) (i : Nat) : (hL w i).length = i + 1 := by simp [hL]
theorem hL_succ (w : List Nat) (i : Nat) : hL w (i + 1) = hL w i ++ [cnt w (i + 1)] := by
  unfold hL
  rw [List.range_succ, List.map_append]; rfl
theorem at_neg1 {α : Type} {xs : List α} {x : α} : atI (xs ++ [x]) (-1) = some x := by
  unfold atI ixN
  rw [if_neg (by omega), if_pos (by rw [List.length_append, List.length_singleton]; omega)]
  have : ((-1 : Int) + ((xs ++ [x]).length : Nat)).toNat = xs.length := by simp; omega
  show (xs ++ [x])[((-1 : Int) + ((xs ++ [x]).length : Nat)).toNat]? = _
  rw [this]
  simp
theorem hL_last (w : List Nat) : ∀ i, ∃ xs, hL w i = xs ++ [cnt w i]
  | 0 => ⟨[], by simp [hL]⟩
  | i + 1 => ⟨hL w i, hL_succ w i⟩
theorem idx_neg1 {xs : List Int} {x : Int} : idxD (.lst ((xs ++ [x]).map .int)) (.int (-1)) = some (.int x) := by
  show atI _ _ = _
  rw [List.map_append]
  exact at_neg1
theorem idx_nat {xs : List D} {i : Int} {j : Nat} {d : D} (h : xs[j]? = some d) (hi : i = j) : idxD (.lst xs) (.int i) = some d := by
  show atI _ _ = _
  have := (List.getElem?_eq_some_iff.mp h).1
  rw [at_of (by omega) (by omega)]
  subst hi
  simp only [Int.toNat_natCast]
  rw [← h, List.getElem?_eq_getElem this]
@[simp] theorem int_bl {b : Bool} : intD [.bl b] = some (.int (if b then 1 else 0)) := rfl
def lHeights : List CS := [.app 1 (.bin .Add (.idx (.var 1) (.neg (.con (.int 1)))) (.blt .int [.cmp .Eq (.var 2) (.con (.str [98]))]))]
def bHeights : List CS := [.own 1 (.lst [.con (.int 0)]),
  .loop (.one 2) .seq [.var 0] lHeights,
  .frz 1,
  .ret (.var 1)]
def HtOk (F : Fsem) : Prop := ∀ (w : List Nat) (S : Sto), w.length < szL → F [.str w] S = .ok (.lst ((hL w w.length).map .int)) S
theorem htOk {Φ Φf : Str → Option Fsem} {G : Str → Option D} {fuel : Nat} : HtOk (fsem Φ Φf G fuel 1 3 bHeights) := by
  intro w S hw
  have hb : ∀ (i c : Nat), w[i]? = some c → exSs Φ Φf G fuel S.length lHeights [some (.str w), some (.loc S.length), some (.str [c])] (S ++ [.lst ((hL w i).map .int)]) = .next [some (.str w), some (.loc S.length), some (.str [c])] (S ++ [.lst ((hL w (i + 1)).map .int)]) := by
    intro i c e
    obtain ⟨xs, hx⟩ := hL_last w i
    have hlt := (List.getElem?_eq_some_iff.mp e).1
    have hl := hL_len w i
    rw [hx] at hl
    have hl2 : xs.length = i := by simpa using hl
    have hi1 := idx_neg1 (xs := xs) (x := cnt w i)
    rw [List.map_append] at hi1
    have hi1 : idxD (.lst (xs.map D.int ++ [.int (cnt w i)])) (.int (-1)) = some (.int (cnt w i)) := hi1
    rw [hL_succ, hx]
    have h2 : i + 1 < szL := by omega
    simp [lHeights, hi1, cnt_succ e, hl2, h2]
  have key := loop0 (body := exSs Φ Φf G fuel S.length lHeights) (tg := .one 2) (items := w.map fun c => .str [c])
    (fun i Γ S' => ∃ x, Γ = [some (.str w), some (.loc S.length), x] ∧ S' = S ++ [.lst ((hL w i).map .int)])
    (fun r => ∃ x, r = .next [some (.str w), some (.loc S.length), x] (S ++ [.lst ((hL w w.length).map .int)]))
    (Γ := [some (.str w), some (.loc S.length), none]) (S := S ++ [.lst [.int 0]])
    ⟨none, rfl, by simp [hL, cnt_zero]⟩ (fun i x Γ S' hi hI => ?_) (fun Γ S' ⟨x, e1, e2⟩ => ⟨x, by rw [e1, e2]; simp⟩)
  · obtain ⟨x, e⟩ := key
    simp [bHeights, szL, e]
  · obtain ⟨y, rfl, rfl⟩ := hI
    rw [List.getElem?_map] at hi
    cases e : w[i]? with
    | none => rw [e] at hi; cases hi
    | some c =>
      rw [e] at hi
      cases hi
      exact ⟨_, rfl, .inl ⟨_, _, hb i c e, _, rfl, rfl⟩⟩

theorem hL_get {w : List Nat} {n i : Nat} (h : i ≤ n) : ((hL w n).map D.int)[i]? = some (.int (cnt w i)) := by
  unfold hL
  rw [List.getElem?_map, List.getElem?_map, List.getElem?_range (by omega)]; rfl
def eBounds : CE := .bin .Sub (.idx (.var 0) (.bin .Add (.var 3) (.var 1))) (.idx (.var 0) (.var 3))
def bBounds : List CS := [.set (.one 2) (.lc eBounds (.one 3) .rng [.bin .Sub (.blt .len [.var 0]) (.var 1)] (.con (.bl true)) [("place", 3)]),
  .ret (.tup [.mth .index (.var 2) (.blt .min [.var 2]), .mth .index (.var 2) (.blt .max [.var 2])])]
def BdOk (F : Fsem) : Prop := ∀ (w : List Nat) (s : Nat) (S : Sto), s ≤ w.length → w.length < szL → ∃ lo hi : Nat, F [.lst ((hL w w.length).map .int), .int s] S = .ok (.tup [.int lo, .int hi]) S ∧ lo + s ≤ w.length ∧ hi + s ≤ w.length ∧
  ∀ p, p + s ≤ w.length → win w s lo ≤ win w s p ∧ win w s p ≤ win w s hi
theorem Wn_mem {w : List Nat} {s p : Nat} (h : p + s ≤ w.length) : win w s p ∈ Wn w s := List.mem_map.mpr ⟨p, List.mem_range.mpr (by omega), rfl⟩
theorem Wn_get {w : List Nat} {s j : Nat} {m : Int} (h : (Wn w s)[j]? = some m) (hs : s ≤ w.length) : j + s ≤ w.length ∧ m = win w s j := by
  unfold Wn at h
  rw [List.getElem?_map] at h
  cases e : (List.range (w.length + 1 - s))[j]? with
  | none => rw [e] at h; cases h
  | some k =>
    rw [e] at h
    have h1 := (List.getElem?_eq_some_iff.mp e)
    obtain ⟨h2, h3⟩ := h1
    rw [List.getElem_range] at h3
    subst h3
    rw [List.length_range] at h2
    exact ⟨by omega, (Option.some.inj h).symm⟩
theorem bdOk {Φ Φf : Str → Option Fsem} {G : Str → Option D} {fuel : Nat} : BdOk (fsem Φ Φf G fuel 2 4 bBounds) := by
  intro w s S hs hw
  have hz : szL = 16777216 := rfl
  have hne : Wn w s ≠ [] := by
    intro e
    have := Wn_mem (w := w) (s := s) (p := 0) (by omega)
    rw [e] at this; cases this
  obtain ⟨mn, e1, m1, m2⟩ := min_ints hne
  obtain ⟨mx, e2, m3, m4⟩ := max_ints hne
  obtain ⟨lo, e3, m5⟩ := index_int m1
  obtain ⟨hi, e4, m6⟩ := index_int m3
  obtain ⟨k1, k2⟩ := Wn_get m5 hs
  obtain ⟨k3, k4⟩ := Wn_get m6 hs
  refine ⟨lo, hi, ?_, k1, k3, fun p hp => ⟨?_, ?_⟩⟩
  · have hl := hL_len w w.length
    have e0 : lcLoop (fun _ S => .ok (.bl true) S) (ev Φ G eBounds) (.one 3) [some (.lst ((hL w w.length).map .int)), some (.int s), none, none] ((List.range (w.length + 1 - s)).map fun i : Nat => D.int (i : Int)) [] S = .ok (.lst ((Wn w s).map .int)) S := by
      rw [lc_at (fun i : Nat => D.int (i : Int)) (fun p => .int (win w s p)) _ _ fun k hk => ?_]
      · rw [List.nil_append]; unfold Wn; rw [map_ints]
      · have hk := List.mem_range.mp hk
        have i1 := idx_nat (hL_get (w := w) (n := w.length) (i := k + s) (by omega)) (i := (k : Int) + s) (by omega)
        have i2 := idx_nat (hL_get (w := w) (n := w.length) (i := k) (by omega)) (i := (k : Int)) rfl
        exact ⟨_, rfl, rfl, by simp [eBounds, i1, i2]; rfl, rfl⟩
    have hn : ((w.length : Int) + 1 - s).toNat = w.length + 1 - s := by omega
    have h62 : in62 ((w.length : Int) + 1 - s) = true := in62_of (by omega) (by omega)
    have hle : w.length + 1 ≤ 16777216 + s := by omega
    simp [bBounds, hl, it_rng1 h62 hn, rng0, szL, hle, e0, e1, e2, e3, e4]
  · rw [← k2]; exact m2 _ (Wn_mem hp)
  · rw [← k4]; exact m4 _ (Wn_mem hp)
end EK

set_option Elab.async false
set_option linter.all false
set_option maxRecDepth 100000
set_option maxHeartbeats 4000000
namespace EK
open PySem L2 PySem.Spec PyProof.Rows
def Unev (w : List Nat) (s : Nat) : Prop := ∃ p q, p + s ≤ w.length ∧ q + s ≤ w.length ∧ 1 < win w s p - win w s q
def FirstU (w : List Nat) (s : Nat) : Prop := 1 ≤ s ∧ s < w.length ∧ Unev w s ∧ ∀ t, 1 ≤ t → t < s → ¬ Unev w t
def NoU (w : List Nat) : Prop := ∀ t, 1 ≤ t → t < w.length → ¬ Unev w t
theorem FirstU.uniq {w : List Nat} {s t : Nat} (h : FirstU w s) (h' : FirstU w t) : s = t := by
  rcases Nat.lt_trichotomy s t with q | q | q
  · exact absurd h.2.2.1 (h'.2.2.2 s h.1 q)
  · exact q
  · exact absurd h'.2.2.1 (h.2.2.2 t h'.1 q)
theorem FirstU.no {w : List Nat} {s : Nat} (h : FirstU w s) (h' : NoU w) : False := h' s h.1 h.2.1 h.2.2.1
theorem win_one {w : List Nat} {p : Nat} (h : p + 1 ≤ w.length) : 0 ≤ win w 1 p ∧ win w 1 p ≤ 1 := by
  unfold win
  rw [cnt_succ (List.getElem?_eq_getElem (by omega : p < w.length))]
  split <;> omega
theorem not_one (w : List Nat) : ¬ Unev w 1 := by
  rintro ⟨p, q, h1, h2, h3⟩
  have := win_one h1
  have := win_one h2
  omega
theorem unev_of {w : List Nat} {s lo hi : Nat} (k1 : lo + s ≤ w.length) (k2 : hi + s ≤ w.length) (k : ∀ p, p + s ≤ w.length → win w s lo ≤ win w s p ∧ win w s p ≤ win w s hi) : Unev w s ↔ 1 < win w s hi - win w s lo := by
  constructor
  · rintro ⟨p, q, h1, h2, h3⟩
    have := k p h1
    have := k q h2
    omega
  · intro h
    exact ⟨hi, lo, k2, k1, h⟩
def lFirst : List CS := [.set (.many [3, 4]) (.call "bounds_at" [.var 1, .var 2]),
  .ite (.cmp .Gt (.bin .Sub (.bin .Sub (.idx (.var 1) (.bin .Add (.var 4) (.var 2))) (.idx (.var 1) (.var 4))) (.bin .Sub (.idx (.var 1) (.bin .Add (.var 3) (.var 2))) (.idx (.var 1) (.var 3)))) (.con (.int 1))) [.ret (.lst [.tup [.var 3, .var 4, .var 2]])] []]
def bFirst : List CS := [.set (.one 1) (.call "heights_of" [.var 0]),
  .loop (.one 2) .rng [.con (.int 2), .blt .len [.var 0]] lFirst,
  .ret (.lst [])]
/-- two parts that differ by two or more -/
def Wit (w : List Nat) (lo hi s : Nat) : Prop := lo + s ≤ w.length ∧ hi + s ≤ w.length ∧ 1 < win w s hi - win w s lo
def FuOk (F : Fsem) : Prop := ∀ (w : List Nat) (S : Sto), w.length < szL → (∃ lo hi s : Nat, F [.str w] S = .ok (.lst [.tup [.int lo, .int hi, .int s]]) S ∧ FirstU w s ∧ Wit w lo hi s) ∨ (F [.str w] S = .ok (.lst []) S ∧ NoU w)
theorem fuOk {Φ Φf : Str → Option Fsem} {G : Str → Option D} {fuel : Nat} {Fh Fb : Fsem} (e1 : Φ "heights_of" = some Fh) (h1 : HtOk Fh) (e2 : Φ "bounds_at" = some Fb) (h2 : BdOk Fb) : FuOk (fsem Φ Φf G fuel 1 5 bFirst) := by
  intro w S hw
  have hz : szL = 16777216 := rfl
  have hb : ∀ (s : Nat) (y z : Option D), 2 ≤ s → s < w.length → ∃ lo hi : Nat, (Unev w s ∧ exSs Φ Φf G fuel S.length lFirst [some (.str w), some (.lst ((hL w w.length).map .int)), some (.int s), y, z] S = .ret (.lst [.tup [.int lo, .int hi, .int s]]) S false ∧ Wit w lo hi s) ∨
      (¬ Unev w s ∧ exSs Φ Φf G fuel S.length lFirst [some (.str w), some (.lst ((hL w w.length).map .int)), some (.int s), y, z] S = .next [some (.str w), some (.lst ((hL w w.length).map .int)), some (.int s), some (.int lo), some (.int hi)] S) := by
    intro s y z hs1 hs2
    obtain ⟨lo, hi, e, k1, k2, k⟩ := h2 w s S (by omega) hw
    have i1 := idx_nat (hL_get (w := w) (n := w.length) (i := hi + s) (by omega)) (i := (hi : Int) + s) (by omega)
    have i2 := idx_nat (hL_get (w := w) (n := w.length) (i := hi) (by omega)) (i := (hi : Int)) rfl
    have i3 := idx_nat (hL_get (w := w) (n := w.length) (i := lo + s) (by omega)) (i := (lo : Int) + s) (by omega)
    have i4 := idx_nat (hL_get (w := w) (n := w.length) (i := lo) (by omega)) (i := (lo : Int)) rfl
    refine ⟨lo, hi, ?_⟩
    by_cases hu : Unev w s
    · left
      refine ⟨hu, ?_, k1, k2, (unev_of k1 k2 k).mp hu⟩
      rw [unev_of k1 k2 k] at hu
      unfold win at hu
      simp [lFirst, e2, e, i1, i2, i3, i4, hu, szL]
    · right
      refine ⟨hu, ?_⟩
      rw [unev_of k1 k2 k] at hu
      unfold win at hu
      simp [lFirst, e2, e, i1, i2, i3, i4, hu]
  have key := loop0 (body := exSs Φ Φf G fuel S.length lFirst) (tg := .one 2) (items := rngL 2 (w.length - 2))
    (fun i Γ S' => S' = S ∧ (∃ x y z, Γ = [some (.str w), some (.lst ((hL w w.length).map .int)), x, y, z]) ∧ ∀ t, 2 ≤ t → t < 2 + i → ¬ Unev w t)
    (fun r => (∃ lo hi s : Nat, r = .ret (.lst [.tup [.int lo, .int hi, .int s]]) S false ∧ FirstU w s ∧ Wit w lo hi s) ∨ ∃ Γ, r = .next Γ S ∧ NoU w)
    (Γ := [some (.str w), some (.lst ((hL w w.length).map .int)), none, none, none]) (S := S)
    ⟨rfl, ⟨_, _, _, rfl⟩, fun t h1 h2 => by omega⟩ (fun i x Γ S' hi hI => ?_) (fun Γ S' ⟨e1, ⟨x, y, z, e2⟩, q⟩ => .inr ⟨Γ, by rw [e1], fun t t1 t2 => ?_⟩)
  · have hnn : ((w.length : Int) - 2).toNat = w.length - 2 := by omega
    have h62 : in62 (w.length : Int) = true := in62_of (by omega) (by omega)
    have h62' : in62 2 = true := in62_of (by omega) (by omega)
    have hle : w.length ≤ szL := by omega
    rcases key with ⟨lo, hi, s, e, q⟩ | ⟨Γ, e, q⟩
    · left
      refine ⟨lo, hi, s, ?_, q⟩
      simp [bFirst, e1, h1 w S hw, lenS hle, it_rng2 h62' h62 hnn, e, szL]
    · right
      refine ⟨?_, q⟩
      simp [bFirst, e1, h1 w S hw, lenS hle, it_rng2 h62' h62 hnn, e, szL]
  · obtain ⟨rfl, ⟨a, b, c, rfl⟩, q⟩ := hI
    obtain ⟨hi1, hi2⟩ := rngAt hi
    subst hi2
    obtain ⟨lo, hi, q2⟩ := hb (2 + i) b c (by omega) (by omega)
    have e : D.int (2 + (i : Int)) = D.int ((2 + i : Nat) : Int) := by congr 1
    refine ⟨_, rfl, ?_⟩
    rw [e]
    rcases q2 with ⟨u, q2, wit⟩ | ⟨u, q2⟩
    · refine .inr ⟨_, _, _, q2, .inl ⟨lo, hi, 2 + i, rfl, ⟨by omega, by omega, u, fun t t1 t2 => ?_⟩, wit⟩⟩
      by_cases ht : t = 1
      · subst ht; exact not_one w
      · exact q t (by omega) t2
    · refine .inl ⟨_, _, q2, rfl, ⟨_, _, _, rfl⟩, fun t t1 t2 => ?_⟩
      by_cases ht : t = 2 + i
      · subst ht; exact u
      · exact q t t1 (by omega)
  · by_cases ht : t = 1
    · subst ht; exact not_one w
    · refine q t (by omega) ?_
      rw [rng_len]; omega
end EK

set_option Elab.async false
set_option linter.all false
set_option maxRecDepth 100000
set_option maxHeartbeats 4000000
namespace EK
open PySem L2 PySem.Spec PyProof.Rows
def eIsWord : CE := .cmp .In (.var 3) (.glob "LETTERS")
def bIsWord : List CS := [.ret (.and (.isi (.var 0) "str") (.and (.chain .LtE .LtE (.var 1) (.blt .len [.var 0]) (.var 2)) (.blt .all [.lc eIsWord (.one 3) .seq [.var 0] (.con (.bl true)) [("letter", 3)]])))]
def IwOk (F : Fsem) : Prop := ∀ (w : List Nat) (lo hi : Int) (S : Sto), Wd w → w.length ≤ szL → lo ≤ w.length → (w.length : Int) ≤ hi → F [.str w, .int lo, .int hi] S = .ok (.bl true) S
theorem bools_true {α : Type} : ∀ ks : List α, allD [.lst (ks.map fun _ => D.bl true)] = some (.bl true)
  | [] => rfl
  | k :: ks => by
    have := bools_true ks
    unfold allD at this ⊢
    simp only [List.map_cons] at this ⊢
    cases e : bools (ks.map fun _ => D.bl true) with
    | none => rw [e] at this; cases this
    | some bs =>
      rw [e] at this
      have e2 : bools (D.bl true :: ks.map fun _ => D.bl true) = some (true :: bs) := by
        show (bools (ks.map fun _ => D.bl true)).map (true :: ·) = _
        rw [e]; rfl
      rw [e2]
      simpa using this
theorem iwOk {Φ Φf : Str → Option Fsem} {G : Str → Option D} {fuel : Nat} (g : G "LETTERS" = some (.str [97, 98])) : IwOk (fsem Φ Φf G fuel 3 4 bIsWord) := by
  intro w lo hi S hw hl h1 h2
  have e0 : lcLoop (fun _ S => .ok (.bl true) S) (ev Φ G eIsWord) (.one 3) [some (.str w), some (.int lo), some (.int hi), none] (w.map fun c => .str [c]) [] S = .ok (.lst (w.map fun _ => .bl true)) S := by
    rw [lc_at (fun c => .str [c]) (fun _ => .bl true) _ _ fun c hc => ⟨_, rfl, rfl, ?_, rfl⟩]
    · rfl
    · have hin : cmpD .In (.str [c]) (.str [97, 98]) = some (.bl true) := by
        rcases hw c hc with rfl | rfl <;> rfl
      simp [eIsWord, g, hin]
  have hi1 : isiD "str" (.str w) = some (.bl true) := rfl
  have hb := bools_true w
  have n1 : ¬ ((w.length : Int) < lo) := by omega
  have n2 : ¬ (hi < (w.length : Int)) := by omega
  simp [bIsWord, hi1, lenS hl, e0, hl, hb, n1, n2]
def bNeedWord : List CS := [.ite (.not (.call "is_word" [.var 0, .con (.int 0), .glob "MOST_LETTERS"])) [.never] [],
  .ret (.var 0)]
def NwOk (F : Fsem) : Prop := ∀ (w : List Nat) (S : Sto), Wd w → w.length ≤ 400 → F [.str w] S = .ok (.str w) S
theorem nwOk {Φ Φf : Str → Option Fsem} {G : Str → Option D} {fuel : Nat} {F : Fsem} (g : G "MOST_LETTERS" = some (.int 400)) (e : Φ "is_word" = some F) (h : IwOk F) : NwOk (fsem Φ Φf G fuel 1 1 bNeedWord) := by
  intro w S hw hl
  have h := h w 0 400 S hw (by show w.length ≤ 16777216; omega) (by omega) (by omega)
  simp [bNeedWord, g, e, h]
def bEvenIn : List CS := [.ret (.cmp .Eq (.call "first_uneven" [.var 0]) (.lst []))]
def bEven : List CS := [.ret (.call "is_even_in" [.call "need_word" [.var 0]])]
def bUneven : List CS := [.set (.one 1) (.call "first_uneven" [.call "need_word" [.var 0]]),
  .ret (.ite (.cmp .NotEq (.var 1) (.lst [])) (.idx (.idx (.var 1) (.con (.int 0))) (.con (.int 2))) (.con .non))]
def EiOk (F : Fsem) : Prop := ∀ (w : List Nat) (S : Sto), w.length < szL → (NoU w ∧ F [.str w] S = .ok (.bl true) S) ∨ ((∃ s, FirstU w s) ∧ F [.str w] S = .ok (.bl false) S)
def EvOk (F : Fsem) : Prop := ∀ (w : List Nat) (S : Sto), Wd w → w.length ≤ 400 → (NoU w ∧ F [.str w] S = .ok (.bl true) S) ∨ ((∃ s, FirstU w s) ∧ F [.str w] S = .ok (.bl false) S)
def UsOk (F : Fsem) : Prop := ∀ (w : List Nat) (S : Sto), Wd w → w.length ≤ 400 → (NoU w ∧ F [.str w] S = .ok .non S) ∨ ∃ s : Nat, FirstU w s ∧ F [.str w] S = .ok (.int s) S
theorem eiOk {Φ Φf : Str → Option Fsem} {G : Str → Option D} {fuel : Nat} {F : Fsem} (e : Φ "first_uneven" = some F) (h : FuOk F) : EiOk (fsem Φ Φf G fuel 1 1 bEvenIn) := by
  intro w S hw
  rcases h w S hw with ⟨lo, hi, s, q1, q2, _⟩ | ⟨q1, q2⟩
  · right
    refine ⟨⟨s, q2⟩, ?_⟩
    have c : cmpD .Eq (.lst [.tup [.int lo, .int hi, .int s]]) (.lst []) = some (.bl false) := rfl
    simp [bEvenIn, e, q1, c]
  · left
    refine ⟨q2, ?_⟩
    have c : cmpD .Eq (.lst []) (.lst []) = some (.bl true) := rfl
    simp [bEvenIn, e, q1, c]
theorem lt_sz {n : Nat} (h : n ≤ 400) : n < szL := by show n < 16777216; omega
theorem evOk {Φ Φf : Str → Option Fsem} {G : Str → Option D} {fuel : Nat} {F F2 : Fsem} (e : Φ "is_even_in" = some F) (h : EiOk F) (e2 : Φ "need_word" = some F2) (h2 : NwOk F2) : EvOk (fsem Φ Φf G fuel 1 1 bEven) := by
  intro w S hw hl
  rcases h w S (lt_sz hl) with ⟨q1, q2⟩ | ⟨q1, q2⟩
  · left
    exact ⟨q1, by simp [bEven, e, e2, h2 w S hw hl, q2]⟩
  · right
    exact ⟨q1, by simp [bEven, e, e2, h2 w S hw hl, q2]⟩
theorem usOk {Φ Φf : Str → Option Fsem} {G : Str → Option D} {fuel : Nat} {F F2 : Fsem} (e : Φ "first_uneven" = some F) (h : FuOk F) (e2 : Φ "need_word" = some F2) (h2 : NwOk F2) : UsOk (fsem Φ Φf G fuel 1 2 bUneven) := by
  intro w S hw hl
  rcases h w S (lt_sz hl) with ⟨lo, hi, s, q1, q2, _⟩ | ⟨q1, q2⟩
  · right
    refine ⟨s, q2, ?_⟩
    have c : cmpD .NotEq (.lst [.tup [.int lo, .int hi, .int s]]) (.lst []) = some (.bl true) := rfl
    have i1 : idxD (.lst [.tup [.int lo, .int hi, .int s]]) (.int 0) = some (.tup [.int lo, .int hi, .int s]) := rfl
    have i2 : idxD (.tup [.int lo, .int hi, .int s]) (.int 2) = some (.int s) := rfl
    simp [bUneven, e, e2, h2 w S hw hl, q1, c, i1, i2]
  · left
    refine ⟨q2, ?_⟩
    have c : cmpD .NotEq (.lst []) (.lst []) = some (.bl false) := rfl
    simp [bUneven, e, e2, h2 w S hw hl, q1, c]
end EK

set_option Elab.async false
set_option linter.all false
set_option maxRecDepth 100000
set_option maxHeartbeats 4000000
namespace EK
open PySem L2 PySem.Spec PyProof.Rows
section
variable {Φ Φf : Str → Option Fsem} {G : Str → Option D} {fuel : Nat}
theorem pairs_zip : ∀ (xs ys : List D), pairs xs ys = List.zipWith (fun x y => D.tup [x, y]) xs ys
  | [], _ => by cases ‹List D› <;> rfl
  | _ :: _, [] => rfl
  | x :: xs, y :: ys => by
    show D.tup [x, y] :: pairs xs ys = D.tup [x, y] :: List.zipWith _ xs ys
    rw [pairs_zip xs ys]
theorem pairs_range (f g : Nat → D) (n m : Nat) (h : m ≤ n) : pairs ((List.range n).map f) ((List.range m).map g) = (List.range m).map fun i => D.tup [f i, g i] := by
  rw [pairs_zip]
  apply List.ext_getElem?
  intro i
  rw [List.getElem?_zipWith]
  simp only [List.getElem?_map]
  by_cases hi : i < m
  · rw [List.getElem?_range hi, List.getElem?_range (by omega)]; rfl
  · rw [List.getElem?_eq_none (l := List.range m) (by simpa using hi)]
    cases (List.range n)[i]? <;> rfl
theorem drop_range {α : Type} (f : Nat → α) (n s : Nat) : ((List.range n).map f).drop s = (List.range (n - s)).map fun i => f (i + s) := by
  apply List.ext_getElem?
  intro i
  rw [List.getElem?_drop, List.getElem?_map, List.getElem?_map]
  by_cases hi : i < n - s
  · rw [List.getElem?_range hi, List.getElem?_range (by omega)]
    simp [Nat.add_comm]
  · rw [List.getElem?_eq_none (l := List.range (n - s)) (by simpa using hi), List.getElem?_eq_none (l := List.range n) (by simp; omega)]
    rfl
theorem cut_from {α : Type} {xs : List α} {s : Nat} (h : s ≤ xs.length) : cutL xs (some (s : Int)) none = xs.drop s := by
  unfold cutL
  rw [HT.sIx_nat, HT.sIx_none, Nat.min_eq_left h, List.take_of_length_le (by simp)]
theorem cut_to {α : Type} {xs : List α} {e : Nat} : cutL xs none (some (e : Int)) = xs.take e := by
  unfold cutL
  rw [HT.sIx_nat, HT.sIx_none, List.drop_zero, Nat.sub_zero]
  by_cases h : e ≤ xs.length
  · rw [Nat.min_eq_left h]
  · rw [Nat.min_eq_right (by omega), List.take_of_length_le (Nat.le_refl _), List.take_of_length_le (by omega)]
theorem cut_both {α : Type} {xs : List α} {s e : Nat} (h : s ≤ e) (h2 : e ≤ xs.length) : cutL xs (some (s : Int)) (some (e : Int)) = (xs.drop s).take (e - s) := by
  unfold cutL
  rw [HT.sIx_nat, HT.sIx_nat, Nat.min_eq_left h2, Nat.min_eq_left (by omega)]
theorem ht_body {w : List Nat} {S : Sto} (hw : w.length < szL) (T : Gam) (i c : Nat) (e : w[i]? = some c) : exSs Φ Φf G fuel S.length lHeights (some (.str w) :: some (.loc S.length) :: some (.str [c]) :: T) (S ++ [.lst ((hL w i).map .int)]) = .next (some (.str w) :: some (.loc S.length) :: some (.str [c]) :: T) (S ++ [.lst ((hL w (i + 1)).map .int)]) := by
  obtain ⟨xs, hx⟩ := hL_last w i
  have hlt := (List.getElem?_eq_some_iff.mp e).1
  have hl := hL_len w i
  rw [hx] at hl
  have hl2 : xs.length = i := by simpa using hl
  have hi1 := idx_neg1 (xs := xs) (x := cnt w i)
  rw [List.map_append] at hi1
  have hi1 : idxD (.lst (xs.map D.int ++ [.int (cnt w i)])) (.int (-1)) = some (.int (cnt w i)) := hi1
  rw [hL_succ, hx]
  have h2 : i + 1 < szL := by omega
  simp [lHeights, hi1, cnt_succ e, hl2, h2]
theorem ht_loop {w : List Nat} {S : Sto} (hw : w.length < szL) (T : Gam) : ∃ x, loopN (exSs Φ Φf G fuel S.length lHeights) (.one 2) (w.map fun c => .str [c]) (some (.str w) :: some (.loc S.length) :: none :: T) (S ++ [.lst [.int 0]]) = .next (some (.str w) :: some (.loc S.length) :: x :: T) (S ++ [.lst ((hL w w.length).map .int)]) := by
  refine loop0 (items := w.map fun c => .str [c])
    (fun i Γ S' => ∃ x, Γ = some (.str w) :: some (.loc S.length) :: x :: T ∧ S' = S ++ [.lst ((hL w i).map .int)])
    (fun r => ∃ x, r = .next (some (.str w) :: some (.loc S.length) :: x :: T) (S ++ [.lst ((hL w w.length).map .int)]))
    ⟨none, rfl, by simp [hL, cnt_zero]⟩ (fun i x Γ S' hi hI => ?_) (fun Γ S' ⟨x, e1, e2⟩ => ⟨x, by rw [e1, e2]; simp⟩)
  obtain ⟨y, rfl, rfl⟩ := hI
  rw [List.getElem?_map] at hi
  cases e : w[i]? with
  | none => rw [e] at hi; cases hi
  | some c =>
    rw [e] at hi
    cases hi
    exact ⟨_, rfl, .inl ⟨_, _, ht_body hw T i c e, _, rfl, rfl⟩⟩
def eSpread : CE := .bin .Sub (.var 6) (.var 5)
def lSpread : List CS := [.set (.one 4) (.lc eSpread (.many [5, 6]) .zip [.var 1, .sl (.var 1) (.var 3) (.con .non)] (.con (.bl true)) [("_law_near", 5), ("_law_far", 6)]),
  .ite (.cmp .Gt (.bin .Sub (.blt .max [.var 4]) (.blt .min [.var 4])) (.con (.int 1))) [.ret (.var 3)] []]
def bSpread : List CS := [.own 1 (.lst [.con (.int 0)]),
  .loop (.one 2) .seq [.var 0] lHeights,
  .frz 1,
  .loop (.one 3) .rng [.con (.int 1), .blt .len [.var 0]] lSpread,
  .ret (.con .non)]
def SpOk (F : Fsem) : Prop := ∀ (w : List Nat) (S : Sto), w.length < szL → (NoU w ∧ F [.str w] S = .ok .non S) ∨ ∃ s : Nat, FirstU w s ∧ F [.str w] S = .ok (.int s) S
theorem sp_body {w : List Nat} {S : Sto} (hw : w.length < szL) {n0 : Nat} (s : Nat) (l a : Option D) (h1 : 1 ≤ s) (h2 : s < w.length) :
    (Unev w s ∧ exSs Φ Φf G fuel n0 lSpread [some (.str w), some (.lst ((hL w w.length).map .int)), l, some (.int s), a, none, none] S = .ret (.int s) S false) ∨
    (¬ Unev w s ∧ exSs Φ Φf G fuel n0 lSpread [some (.str w), some (.lst ((hL w w.length).map .int)), l, some (.int s), a, none, none] S = .next [some (.str w), some (.lst ((hL w w.length).map .int)), l, some (.int s), some (.lst ((Wn w s).map .int)), none, none] S) := by
  have hz : szL = 16777216 := rfl
  have hne : Wn w s ≠ [] := by
    intro e
    have := Wn_mem (w := w) (s := s) (p := 0) (by omega)
    rw [e] at this; cases this
  obtain ⟨mn, e1, m1, m2⟩ := min_ints hne
  obtain ⟨mx, e2, m3, m4⟩ := max_ints hne
  obtain ⟨lo, e3, m5⟩ := index_int m1
  obtain ⟨hi, e4, m6⟩ := index_int m3
  obtain ⟨k1, k2⟩ := Wn_get m5 (by omega)
  obtain ⟨k3, k4⟩ := Wn_get m6 (by omega)
  have hu : Unev w s ↔ 1 < mx - mn := by
    rw [unev_of k1 k3 fun p hp => ⟨by rw [← k2]; exact m2 _ (Wn_mem hp), by rw [← k4]; exact m4 _ (Wn_mem hp)⟩, k2, k4]
  have ecut : slD (.lst ((hL w w.length).map .int)) (some (s : Int)) none = some (.lst ((List.range (w.length + 1 - s)).map fun p => D.int (cnt w (p + s)))) := by
    show some (D.lst (cutL _ _ _)) = _
    rw [cut_from (by rw [List.length_map, hL_len]; omega)]
    unfold hL
    rw [map_ints, drop_range]
  have epair : pairs ((hL w w.length).map .int) ((List.range (w.length + 1 - s)).map fun p => D.int (cnt w (p + s))) = (List.range (w.length + 1 - s)).map fun p => D.tup [.int (cnt w p), .int (cnt w (p + s))] := by
    unfold hL
    rw [map_ints, pairs_range _ _ _ _ (by omega)]
  have e0 : lcLoop (fun _ S => .ok (.bl true) S) (ev Φ G eSpread) (.many [5, 6]) [some (.str w), some (.lst ((hL w w.length).map .int)), l, some (.int s), a, none, none] ((List.range (w.length + 1 - s)).map fun p => D.tup [.int (cnt w p), .int (cnt w (p + s))]) [] S = .ok (.lst ((Wn w s).map .int)) S := by
    rw [lc_at (fun p => D.tup [.int (cnt w p), .int (cnt w (p + s))]) (fun p => .int (win w s p)) _ _ fun k hk => ⟨_, rfl, rfl, by simp [eSpread]; rfl, rfl⟩]
    rw [List.nil_append]; unfold Wn; rw [map_ints]
  have hle : w.length + 1 ≤ 16777216 + s := by omega
  by_cases h : Unev w s
  · left
    refine ⟨h, ?_⟩
    have h := hu.mp h
    simp [lSpread, part_int, ecut, epair, e0, szL, hle, e1, e2, h]
  · right
    refine ⟨h, ?_⟩
    have h : ¬ 1 < mx - mn := fun z => h (hu.mpr z)
    simp [lSpread, part_int, ecut, epair, e0, szL, hle, e1, e2, h]
theorem spOk : SpOk (fsem Φ Φf G fuel 1 7 bSpread) := by
  intro w S hw
  have hz : szL = 16777216 := rfl
  obtain ⟨x, eh⟩ := ht_loop (Φ := Φ) (Φf := Φf) (G := G) (fuel := fuel) (w := w) (S := S) hw [none, none, none, none]
  generalize ex2 : thaw1 S.length (.lst ((hL w w.length).map .int)) x = x2
  have key := loop0 (body := exSs Φ Φf G fuel S.length lSpread) (tg := .one 3) (items := rngL 1 (w.length - 1))
    (fun i Γ S' => S' = S ∧ (∃ y z, Γ = [some (.str w), some (.lst ((hL w w.length).map .int)), x2, y, z, none, none]) ∧ ∀ t, 1 ≤ t → t < 1 + i → ¬ Unev w t)
    (fun r => (∃ s : Nat, r = .ret (.int s) S false ∧ FirstU w s) ∨ ∃ Γ, r = .next Γ S ∧ NoU w)
    (Γ := [some (.str w), some (.lst ((hL w w.length).map .int)), x2, none, none, none, none]) (S := S)
    ⟨rfl, ⟨_, _, rfl⟩, fun t h1 h2 => by omega⟩ (fun i x Γ S' hi hI => ?_) (fun Γ S' ⟨e1, _, q⟩ => .inr ⟨Γ, by rw [e1], fun t t1 t2 => q t t1 (by rw [rng_len]; omega)⟩)
  · have hnn : ((w.length : Int) - 1).toNat = w.length - 1 := by omega
    have h62 : in62 (w.length : Int) = true := in62_of (by omega) (by omega)
    have h62' : in62 1 = true := rfl
    have hle : w.length ≤ szL := by omega
    rcases key with ⟨s, e, q⟩ | ⟨Γ, e, q⟩
    · right
      refine ⟨s, q, ?_⟩
      simp [bSpread, szL, eh, ex2, lenS hle, it_rng2 h62' h62 hnn, e]
    · left
      refine ⟨q, ?_⟩
      simp [bSpread, szL, eh, ex2, lenS hle, it_rng2 h62' h62 hnn, e]
  · obtain ⟨rfl, ⟨b, c, rfl⟩, q⟩ := hI
    obtain ⟨hi1, hi2⟩ := rngAt hi
    subst hi2
    have e : D.int (1 + (i : Int)) = D.int ((1 + i : Nat) : Int) := by congr 1
    rw [e]
    refine ⟨_, rfl, ?_⟩
    rcases sp_body (Φ := Φ) (Φf := Φf) (G := G) (fuel := fuel) (S := S') (n0 := S'.length) hw (1 + i) x2 c (by omega) (by omega) with ⟨u, q2⟩ | ⟨u, q2⟩
    · exact .inr ⟨_, _, _, q2, .inl ⟨1 + i, rfl, by omega, by omega, u, fun t t1 t2 => q t t1 t2⟩⟩
    · refine .inl ⟨_, _, q2, rfl, ⟨_, _, rfl⟩, fun t t1 t2 => ?_⟩
      by_cases ht : t = 1 + i
      · subst ht; exact u
      · exact q t t1 (by omega)
end
end EK

set_option Elab.async false
set_option linter.all false
set_option maxRecDepth 100000
set_option maxHeartbeats 4000000
namespace EK
open PySem L2 PySem.Spec PyProof.Rows
/-! ### the other letters, the word backwards -/
def flip (c : Nat) : Nat := if c = 97 then 98 else 97
theorem wd_flip (w : List Nat) : Wd (w.map flip) := by
  intro c hc
  obtain ⟨d, _, rfl⟩ := List.mem_map.mp hc
  unfold flip
  split
  · exact .inr rfl
  · exact .inl rfl
theorem wd_rev {w : List Nat} (h : Wd w) : Wd w.reverse := fun c hc => h c (List.mem_reverse.mp hc)
theorem count_flip : ∀ {w : List Nat}, Wd w → (w.map flip).count 98 + w.count 98 = w.length
  | [], _ => rfl
  | c :: w, h => by
    have ih := count_flip (w := w) fun d hd => h d (List.mem_cons_of_mem _ hd)
    rw [List.map_cons, List.count_cons, List.count_cons, List.length_cons]
    rcases h c (List.mem_cons_self ..) with rfl | rfl
    · simp [flip]; omega
    · simp [flip]; omega
theorem cnt_flip {w : List Nat} (h : Wd w) {i : Nat} (hi : i ≤ w.length) : cnt (w.map flip) i = i - cnt w i := by
  unfold cnt
  rw [← List.map_take]
  have := count_flip (w := w.take i) fun c hc => h c (List.mem_of_mem_take hc)
  rw [List.length_take, Nat.min_eq_left hi] at this
  omega
theorem win_flip {w : List Nat} (h : Wd w) {s p : Nat} (hp : p + s ≤ w.length) : win (w.map flip) s p = s - win w s p := by
  unfold win
  rw [cnt_flip h hp, cnt_flip h (by omega)]
  omega
theorem unev_flip {w : List Nat} (h : Wd w) (s : Nat) : Unev (w.map flip) s ↔ Unev w s := by
  constructor
  · rintro ⟨p, q, h1, h2, h3⟩
    rw [List.length_map] at h1 h2
    rw [win_flip h h1, win_flip h h2] at h3
    exact ⟨q, p, h2, h1, by omega⟩
  · rintro ⟨p, q, h1, h2, h3⟩
    refine ⟨q, p, by rw [List.length_map]; exact h2, by rw [List.length_map]; exact h1, ?_⟩
    rw [win_flip h h1, win_flip h h2]; omega
theorem cnt_rev {w : List Nat} {i : Nat} (hi : i ≤ w.length) : cnt w.reverse i = cnt w w.length - cnt w (w.length - i) := by
  unfold cnt
  rw [List.take_reverse, List.count_reverse, List.take_length]
  have := congrArg (List.count 98) (List.take_append_drop (w.length - i) w)
  rw [List.count_append] at this
  omega
theorem win_rev {w : List Nat} {s p : Nat} (hp : p + s ≤ w.length) : win w.reverse s p = win w s (w.length - (p + s)) := by
  unfold win
  rw [cnt_rev hp, cnt_rev (by omega), show w.length - (p + s) + s = w.length - p by omega]
  omega
theorem unev_rev (w : List Nat) (s : Nat) : Unev w.reverse s ↔ Unev w s := by
  constructor
  · rintro ⟨p, q, h1, h2, h3⟩
    rw [List.length_reverse] at h1 h2
    rw [win_rev h1, win_rev h2] at h3
    exact ⟨_, _, by omega, by omega, h3⟩
  · rintro ⟨p, q, h1, h2, h3⟩
    refine ⟨w.length - (p + s), w.length - (q + s), by rw [List.length_reverse]; omega, by rw [List.length_reverse]; omega, ?_⟩
    rw [win_rev (by omega), win_rev (by omega)]
    rw [show w.length - (w.length - (p + s) + s) = p by omega, show w.length - (w.length - (q + s) + s) = q by omega]
    exact h3
theorem noU_iff {v w : List Nat} (h : ∀ s, Unev v s ↔ Unev w s) (hl : v.length = w.length) : NoU v ↔ NoU w := by
  unfold NoU
  rw [hl]
  exact ⟨fun q t h1 h2 u => q t h1 h2 ((h t).mpr u), fun q t h1 h2 u => q t h1 h2 ((h t).mp u)⟩
theorem firstU_iff {v w : List Nat} (h : ∀ s, Unev v s ↔ Unev w s) (hl : v.length = w.length) (s : Nat) : FirstU v s ↔ FirstU w s := by
  unfold FirstU
  rw [hl, h s]
  constructor
  · rintro ⟨a, b, c, d⟩; exact ⟨a, b, c, fun t h1 h2 u => d t h1 h2 ((h t).mpr u)⟩
  · rintro ⟨a, b, c, d⟩; exact ⟨a, b, c, fun t h1 h2 u => d t h1 h2 ((h t).mp u)⟩
/-! ### joined letters -/
theorem join_nil : ∀ ys : List (List Nat), TL.joinL [] ys = ys.flatten
  | [] => rfl
  | [y] => by simp [TL.joinL]
  | y :: z :: r => by
    have := join_nil (z :: r)
    simp only [TL.joinL] at this ⊢
    simp [this]
theorem join_strs {ys : List (List Nat)} (h : (ys.map (·.length)).sum ≤ szL) : joinD (.str []) (.lst (ys.map .str)) = some (.str ys.flatten) := by
  show (match strsOf (ys.map .str) with | some ys => if (ys.map fun y : List Nat => y.length).sum + ys.length * ([] : List Nat).length ≤ szL then some (D.str (TL.joinL [] ys)) else none | none => none) = _
  rw [strsOf_map]
  dsimp only
  rw [if_pos (by simpa using h), join_nil]
theorem join_letters {α : Type} {f : α → Nat} {ks : List α} (h : ks.length ≤ szL) : joinD (.str []) (.lst (ks.map fun k => .str [f k])) = some (.str (ks.map f)) := by
  have e : (ks.map fun k => D.str [f k]) = (ks.map fun k => [f k]).map .str := by rw [List.map_map]; rfl
  have e2 : (ks.map fun k => [f k]).flatten = ks.map f := by
    induction ks with
    | nil => rfl
    | cons k ks ih => rw [List.map_cons, List.flatten_cons, ih (by rw [List.length_cons] at h; omega) (by rw [List.map_map]; rfl)]; rfl
  rw [e, join_strs, e2]
  have : ((ks.map fun k => [f k]).map (·.length)).sum = ks.length := by
    rw [List.map_map]
    clear e e2 h
    induction ks with
    | nil => rfl
    | cons k ks ih =>
      rw [List.map_cons, List.sum_cons, ih, List.length_cons]
      show 1 + _ = _
      omega
  rw [this]; exact h
/-! ### the law's own look at a word -/
/-- the longest even part, the first of these -/
def Part (w : List Nat) (b L : Nat) : List Nat := (w.drop b).take L
def Lgst (w v : List Nat) : Prop := ∃ b L, b + L ≤ w.length ∧ v = Part w b L ∧ NoU v ∧ ∀ b' L', b' + L' ≤ w.length → NoU (Part w b' L') → L' < L ∨ (L' = L ∧ b ≤ b')
theorem Lgst.uniq {w v v' : List Nat} (h : Lgst w v) (h' : Lgst w v') : v = v' := by
  obtain ⟨b, L, h1, h2, h3, h4⟩ := h
  obtain ⟨b', L', h1', h2', h3', h4'⟩ := h'
  subst h2 h2'
  have q := h4 b' L' h1' h3'
  have q' := h4' b L h1 h3
  have e1 : L = L' := by omega
  have e2 : b = b' := by omega
  rw [e1, e2]
def LgOk (F : Fsem) : Prop := ∀ (w : List Nat) (S : Sto), Wd w → w.length ≤ 400 → ∃ v, Lgst w v ∧ F [.str w] S = .ok (.str v) S
def eRight : CE := .idx (.dic [.inr "a", .inr "b"] [.con (.str [98]), .con (.str [97])]) (.var 5)
def lRight : List CS := [.ite (.cmp .NotEq (.lst [.call "is_even" [.var 0], .call "uneven_size" [.var 0], .call "is_even" [.rev (.var 3)], .call "uneven_size" [.var 3]]) (.var 2)) [.ret (.con (.bl false))] []]
def bRight : List CS := [.set (.one 1) (.call "_law_spread" [.var 0]),
  .set (.one 2) (.lst [.cmp .Is (.var 1) (.con .non), .var 1, .cmp .Is (.var 1) (.con .non), .var 1]),
  .set (.one 3) (.mth .join (.con (.str [])) (.lc eRight (.one 5) .seq [.var 0] (.con (.bl true)) [("_law_letter", 5)])),
  .loop (.one 4) .rng [.con (.int 2)] lRight,
  .ret (.or (.cmp .Gt (.blt .len [.var 0]) (.con (.int 24))) (.cmp .Eq (.call "longest_even" [.var 0]) (.call "_law_longest" [.var 0])))]
def RtOk (F : Fsem) : Prop := ∀ (w : List Nat) (S : Sto), Wd w → w.length ≤ 400 → F [.str w] S = .ok (.bl true) S
section
variable {Φ Φf : Str → Option Fsem} {G : Str → Option D} {fuel : Nat} {Fs Fe Fu Fl Fg : Fsem}
theorem rt_lc {w : List Nat} {S : Sto} (hw : Wd w) {a b : D} : lcLoop (fun _ S => .ok (.bl true) S) (ev Φ G eRight) (.one 5) [some (.str w), some a, some b, none, none, none] (w.map fun c => .str [c]) [] S = .ok (.lst (w.map fun c => .str [flip c])) S := by
  rw [lc_at (fun c => .str [c]) (fun c => .str [flip c]) _ _ fun c hc => ⟨_, rfl, rfl, ?_, rfl⟩]
  · rfl
  · have nab : ¬ (Str.ofString "a" = Str.ofString "b") := by decide
    have i1 : idxD (.dic [(.inr "a", .str [98]), (.inr "b", .str [97])]) (.str [97]) = some (.str [98]) := rfl
    have i2 : idxD (.dic [(.inr "a", .str [98]), (.inr "b", .str [97])]) (.str [98]) = some (.str [97]) := rfl
    rcases hw c hc with rfl | rfl
    · simp [eRight, i1, flip, nab]
    · simp [eRight, i2, flip, nab]
theorem eq4 : cmpD .NotEq (.lst [.bl true, .non, .bl true, .non]) (.lst [.bl true, .non, .bl true, .non]) = some (.bl false) := rfl
theorem eq4' {s : Int} : cmpD .NotEq (.lst [.bl false, .int s, .bl false, .int s]) (.lst [.bl false, .int s, .bl false, .int s]) = some (.bl false) := by
  have e : cmpD .NotEq (.lst [.bl false, .int s, .bl false, .int s]) (.lst [.bl false, .int s, .bl false, .int s]) = some (.bl (!(PyData.eqv (.list [.bool false, .int s, .bool false, .int s]) (.list [.bool false, .int s, .bool false, .int s])))) := rfl
  rw [e]
  simp [PyData.eqv, PyData.eqvAll]
theorem rtOk (es : Φ "_law_spread" = some Fs) (hs : SpOk Fs) (ee : Φ "is_even" = some Fe) (he : EvOk Fe) (eu : Φ "uneven_size" = some Fu) (hu : UsOk Fu) (el : Φ "longest_even" = some Fl) (hl : LgOk Fl) (eg : Φ "_law_longest" = some Fg) (hg : LgOk Fg) : RtOk (fsem Φ Φf G fuel 1 6 bRight) := by
  intro w S hw h4
  have hsz := lt_sz h4
  have i1 := fun s => unev_flip hw s
  have i2 := fun s => (unev_rev (w.map flip) s).trans (unev_flip hw s)
  have l1 : (w.map flip).length = w.length := List.length_map ..
  have l2 : (w.map flip).reverse.length = w.length := by rw [List.length_reverse, l1]
  have hj := join_letters (f := flip) (ks := w) (Nat.le_of_lt hsz)
  have hr : revD (.str (w.map flip)) = some (.str (w.map flip).reverse) := by
    show (if (w.map flip).length ≤ szL then some (D.str (w.map flip).reverse) else none) = _
    rw [if_pos (by rw [l1]; omega)]
  obtain ⟨v, v1, v2⟩ := hl w S hw h4
  obtain ⟨v', v3, v4⟩ := hg w S hw h4
  obtain rfl := v1.uniq v3
  have ec : cmpD .Eq (.str v) (.str v) = some (.bl true) := by simp
  have h62 : in62 2 = true := rfl
  have fin : ∀ d : D, (hs' : Fs [.str w] S = .ok d S) → (b : Bool) → cmpD .Is d .non = some (.bl b) → Fe [.str w] S = .ok (.bl b) S → Fu [.str w] S = .ok d S → Fe [.str (w.map flip).reverse] S = .ok (.bl b) S → Fu [.str (w.map flip)] S = .ok d S → noLoc d = true → cmpD .NotEq (.lst [.bl b, d, .bl b, d]) (.lst [.bl b, d, .bl b, d]) = some (.bl false) → fsem Φ Φf G fuel 1 6 bRight [.str w] S = .ok (.bl true) S := by
    intro d q1 b q2 q3 q4 q5 q6 q7 q8
    have hb : ∀ x, exSs Φ Φf G fuel S.length lRight [some (.str w), some d, some (.lst [.bl b, d, .bl b, d]), some (.str (w.map flip)), x, none] S = .next [some (.str w), some d, some (.lst [.bl b, d, .bl b, d]), some (.str (w.map flip)), x, none] S := by
      intro x
      simp [lRight, ee, eu, q3, q4, hr, q5, q6, q7, q8, szL]
    have key := loop0 (body := exSs Φ Φf G fuel S.length lRight) (tg := .one 4) (items := rngL 0 2)
      (fun i Γ S' => S' = S ∧ ∃ x, Γ = [some (.str w), some d, some (.lst [.bl b, d, .bl b, d]), some (.str (w.map flip)), x, none])
      (fun r => ∃ x, r = .next [some (.str w), some d, some (.lst [.bl b, d, .bl b, d]), some (.str (w.map flip)), x, none] S)
      (Γ := [some (.str w), some d, some (.lst [.bl b, d, .bl b, d]), some (.str (w.map flip)), none, none]) (S := S)
      ⟨rfl, _, rfl⟩ (fun i y Γ S' hi hI => by obtain ⟨rfl, x, rfl⟩ := hI; exact ⟨_, rfl, .inl ⟨_, _, hb _, rfl, _, rfl⟩⟩) (fun Γ S' ⟨e1, x, e2⟩ => ⟨x, by rw [e1, e2]⟩)
    obtain ⟨x, key⟩ := key
    have hlc := rt_lc (Φ := Φ) (G := G) (S := S) hw (a := d) (b := .lst [.bl b, d, .bl b, d])
    have hle : w.length ≤ szL := by omega
    have hle2 : w.length ≤ 16777216 := hle
    simp [bRight, es, q1, q2, q7, vw_no q7, szL, hlc, hle2, hj, it_rng1 h62 (rfl : (2 : Int).toNat = 2), lenS hle, key, el, eg, v2, v4]
    cases decide (24 < (w.length : Int)) <;> simp
  rcases hs w S hsz with ⟨n1, n2⟩ | ⟨s, n1, n2⟩
  · have a1 := (he w S hw h4).resolve_right fun ⟨⟨s, z⟩, _⟩ => z.no n1
    have a2 := (hu w S hw h4).resolve_right fun ⟨s, z, _⟩ => z.no n1
    have a3 := (he _ S (wd_rev (wd_flip w)) (by rw [l2]; exact h4)).resolve_right fun ⟨⟨s, z⟩, _⟩ => z.no ((noU_iff i2 l2).mpr n1)
    have a4 := (hu _ S (wd_flip w) (by rw [l1]; exact h4)).resolve_right fun ⟨s, z, _⟩ => z.no ((noU_iff i1 l1).mpr n1)
    exact fin .non n2 true rfl a1.2 a2.2 a3.2 a4.2 rfl eq4
  · have a1 := (he w S hw h4).resolve_left fun ⟨z, _⟩ => n1.no z
    have a3 := (he _ S (wd_rev (wd_flip w)) (by rw [l2]; exact h4)).resolve_left fun ⟨z, _⟩ => n1.no ((noU_iff i2 l2).mp z)
    obtain ⟨s2, b1, b2⟩ := (hu w S hw h4).resolve_left fun ⟨z, _⟩ => n1.no z
    obtain ⟨s3, b3, b4⟩ := (hu _ S (wd_flip w) (by rw [l1]; exact h4)).resolve_left fun ⟨z, _⟩ => n1.no ((noU_iff i1 l1).mp z)
    obtain rfl := n1.uniq b1
    obtain rfl := n1.uniq ((firstU_iff i1 l1 s3).mp b3)
    exact fin (.int s) n2 false rfl a1.2 b2 a3.2 b4 rfl eq4'
end
end EK

set_option Elab.async false
set_option linter.all false
set_option maxRecDepth 100000
set_option maxHeartbeats 4000000
namespace EK
open PySem L2 PySem.Spec PyProof.Rows
/-! ### texts that the law draws -/
theorem lc_indL {cond elt : Gam → Sto → R} {tg : Tg} {Γ : Gam} {I : List D → Sto → Prop} (N : Nat) : ∀ {xs acc : List D} {S : Sto}, acc.length + xs.length ≤ N → I acc S → (∀ x ∈ xs, ∀ acc S, acc.length < N → I acc S → ∃ Γ' d S', setTg tg x Γ = some Γ' ∧ cond Γ' S = .ok (.bl true) S ∧ elt Γ' S = .ok d S' ∧ noLoc d = true ∧ I (acc ++ [d]) S') →
    ∃ out S', lcLoop cond elt tg Γ xs acc S = .ok (.lst out) S' ∧ I out S' ∧ out.length = acc.length + xs.length
  | [], acc, S, _, h0, _ => ⟨acc, S, by simp [lcLoop], h0, rfl⟩
  | x :: xs, acc, S, hN, h0, h => by
    rw [List.length_cons] at hN
    obtain ⟨Γ', d, S', h1, h2, h3, h4, h5⟩ := h x (List.mem_cons_self ..) acc S (by omega) h0
    obtain ⟨out, S2, e, q, l⟩ := lc_indL N (xs := xs) (by rw [List.length_append, List.length_singleton]; omega) h5 fun y hy => h y (List.mem_cons_of_mem _ hy)
    refine ⟨out, S2, ?_, q, by rw [l, List.length_append, List.length_singleton, List.length_cons]; omega⟩
    unfold lcLoop
    rw [h1]
    dsimp only
    rw [h2]
    dsimp only
    rw [h3]
    dsimp only
    rw [if_pos h4, e]
theorem cut_fromA {α : Type} {xs : List α} {s : Nat} : cutL xs (some (s : Int)) none = xs.drop s := by
  by_cases h : s ≤ xs.length
  · exact cut_from h
  · unfold cutL
    rw [HT.sIx_nat, HT.sIx_none, Nat.min_eq_right (by omega), List.drop_of_length_le (Nat.le_refl _), List.drop_of_length_le (by omega : xs.length ≤ s)]
    simp
theorem sl_from {t : List Nat} {i : Int} {s : Nat} (h : t.length ≤ szL) (e : i = s) : slD (.str t) (some i) none = some (.str (t.drop s)) := by
  subst e
  show (if t.length ≤ szL then some (D.str (cutL t _ none)) else none) = _
  rw [if_pos h, cut_fromA]
theorem sl_to {t : List Nat} {i : Int} {s : Nat} (h : t.length ≤ szL) (e : i = s) : slD (.str t) none (some i) = some (.str (t.take s)) := by
  subst e
  show (if t.length ≤ szL then some (D.str (cutL t none _)) else none) = _
  rw [if_pos h, cut_to]
theorem add_str {s t : List Nat} (h : s.length + t.length ≤ szL) : addD (.str s) (.str t) = some (.str (s ++ t)) := by
  show (if s.length + t.length ≤ szL then some (D.str (s ++ t)) else none) = _
  rw [if_pos h]
def lineW (p b st : Int) (n : Nat) : List Nat := (List.range n).map fun k : Nat => if (p * (k : Int) + st) / b < (p * ((k + 1 : Nat) : Int) + st) / b then 98 else 97
theorem lineW_len (p b st : Int) (n : Nat) : (lineW p b st n).length = n := by simp [lineW]
theorem lineW_wd (p b st : Int) (n : Nat) : Wd (lineW p b st n) := by
  intro c hc
  obtain ⟨k, _, rfl⟩ := List.mem_map.mp hc
  split
  · exact .inr rfl
  · exact .inl rfl
def eLine1 : CE := .bin .FloorDiv (.bin .Add (.bin .Mult (.var 0) (.var 5)) (.var 2)) (.var 1)
def eLine2 : CE := .ite (.cmp .Gt (.var 7) (.var 6)) (.con (.str [98])) (.con (.str [97]))
def bLine : List CS := [.set (.one 4) (.lc eLine1 (.one 5) .rng [.bin .Add (.var 3) (.con (.int 1))] (.con (.bl true)) [("_law_k", 5)]),
  .ret (.mth .join (.con (.str [])) (.lc eLine2 (.many [6, 7]) .zip [.var 4, .sl (.var 4) (.con (.int 1)) (.con .non)] (.con (.bl true)) [("_law_near", 6), ("_law_far", 7)]))]
def LnOk (F : Fsem) : Prop := ∀ (p b st : Int) (n : Nat) (S : Sto), 0 ≤ p → p < 2 ^ 50 → 0 < b → b < 2 ^ 50 → n ≤ 1000 → F [.int p, .int b, .int st, .int n] S = .ok (.str (lineW p b st n)) S
section
variable {Φ Φf : Str → Option Fsem} {G : Str → Option D} {fuel : Nat}
theorem lnOk : LnOk (fsem Φ Φf G fuel 4 8 bLine) := by
  intro p b st n S hp hp2 hb hb2 hn
  have h62 : in62 ((n : Int) + 1) = true := in62_of (by omega) (by omega)
  have hnn : ((n : Int) + 1).toNat = n + 1 := by omega
  have e0 : lcLoop (fun _ S => .ok (.bl true) S) (ev Φ G eLine1) (.one 5) [some (.int p), some (.int b), some (.int st), some (.int n), none, none, none, none] ((List.range (n + 1)).map fun i : Nat => D.int (i : Int)) [] S = .ok (.lst ((List.range (n + 1)).map fun k : Nat => D.int ((p * (k : Int) + st) / b))) S := by
    rw [lc_at (fun i : Nat => D.int (i : Int)) (fun k : Nat => D.int ((p * (k : Int) + st) / b)) _ _ fun k hk => ⟨_, rfl, rfl, ?_, rfl⟩]
    · rfl
    · have m := mul_l (i := p) (j := (k : Int)) (small_of hp (by omega))
      have f := fdiv_pos (i := p * (k : Int) + st) hb (by omega)
      simp [eLine1, m, f]
  have ecut : slD (.lst ((List.range (n + 1)).map fun k : Nat => D.int ((p * (k : Int) + st) / b))) (some 1) none = some (.lst ((List.range n).map fun k : Nat => D.int ((p * ((k + 1 : Nat) : Int) + st) / b))) := by
    show some (D.lst (cutL _ (some ((1 : Nat) : Int)) none)) = _
    rw [cut_fromA, drop_range]
    rfl
  have epair : pairs ((List.range (n + 1)).map fun k : Nat => D.int ((p * (k : Int) + st) / b)) ((List.range n).map fun k : Nat => D.int ((p * ((k + 1 : Nat) : Int) + st) / b)) = (List.range n).map fun k : Nat => D.tup [.int ((p * (k : Int) + st) / b), .int ((p * ((k + 1 : Nat) : Int) + st) / b)] := pairs_range _ _ _ _ (by omega)
  have e1 : ∀ X : D, lcLoop (fun _ S => .ok (.bl true) S) (ev Φ G eLine2) (.many [6, 7]) [some (.int p), some (.int b), some (.int st), some (.int n), some X, none, none, none] ((List.range n).map fun k : Nat => D.tup [.int ((p * (k : Int) + st) / b), .int ((p * ((k + 1 : Nat) : Int) + st) / b)]) [] S = .ok (.lst ((List.range n).map fun k : Nat => .str [if (p * (k : Int) + st) / b < (p * ((k + 1 : Nat) : Int) + st) / b then 98 else 97])) S := by
    intro X
    rw [lc_at (fun k : Nat => D.tup [.int ((p * (k : Int) + st) / b), .int ((p * ((k + 1 : Nat) : Int) + st) / b)]) (fun k : Nat => .str [if (p * (k : Int) + st) / b < (p * ((k + 1 : Nat) : Int) + st) / b then 98 else 97]) _ _ fun k hk => ⟨_, rfl, rfl, ?_, rfl⟩]
    · rfl
    · by_cases hc : (p * (k : Int) + st) / b < (p * ((k + 1 : Nat) : Int) + st) / b
      · have hc' := hc
        simp only [Int.natCast_add, Int.natCast_one] at hc'
        simp [eLine2, hc']
      · have hc' := hc
        simp only [Int.natCast_add, Int.natCast_one] at hc'
        simp [eLine2, hc']
  have hj := join_letters (f := fun k : Nat => if (p * (k : Int) + st) / b < (p * ((k + 1 : Nat) : Int) + st) / b then 98 else 97) (ks := List.range n) (by rw [List.length_range]; show n ≤ 16777216; omega)
  simp only [Int.natCast_add, Int.natCast_one] at ecut epair e1 hj
  have hle : n + 1 ≤ 16777216 := by omega
  have hle2 : n ≤ 16777216 := by omega
  simp [bLine, it_rng1 h62 hnn, rng0, e0, szL, hle, hle2, ecut, epair, e1, hj, lineW]
def eLetters : CE := .call "_law_of" [.var 0, .con (.str [97, 98])]
def bLetters : List CS := [.ret (.mth .join (.con (.str [])) (.lc eLetters (.one 2) .rng [.var 1] (.con (.bl true)) [("_law_k", 2)]))]
def LtOk [TS] (F : Fsem) : Prop := ∀ (b : Int) (n : Nat) (S : Sto), DS b S → b < 2 ^ 40 → n ≤ 1000 → ∃ w S', F [.loc TS.T.length, .int n] S = .ok (.str w) S' ∧ Wd w ∧ w.length = n ∧ DS (b + n) S'
theorem ltOk [TS] {F : Fsem} (e : Φ "_law_of" = some F) (h : OfOk F) : LtOk (fsem Φ Φf G fuel 2 3 bLetters) := by
  intro b n S hd hb hn
  have t0 := take1 hd
  have hstep : ∀ x ∈ ((List.range n).map fun i : Nat => D.int (i : Int)), ∀ (acc : List D) (S1 : Sto), acc.length < n → (∃ w : List Nat, acc = w.map (fun c => .str [c]) ∧ Wd w ∧ DS (b + w.length) S1) →
      ∃ Γ' d S', setTg (.one 2) x [some (.loc TS.T.length), some (.int n), none] = some Γ' ∧ (fun (_ : Gam) (S : Sto) => R.ok (.bl true) S) Γ' S1 = .ok (.bl true) S1 ∧ ev Φ G eLetters Γ' S1 = .ok d S' ∧ noLoc d = true ∧ ∃ w : List Nat, acc ++ [d] = w.map (fun c => .str [c]) ∧ Wd w ∧ DS (b + w.length) S' := by
    intro x hx acc S1 hlt hI
    obtain ⟨w, rfl, hw, hD⟩ := hI
    rw [List.length_map] at hlt
    obtain ⟨c, S2, c1, c2, c3⟩ := h.2 (b + w.length) [97, 98] S1 hD (by omega) (by simp) (by decide)
    refine ⟨_, .str [c], S2, rfl, rfl, ?_, rfl, w ++ [c], by simp, ?_, ?_⟩
    · obtain ⟨k, _, rfl⟩ := List.mem_map.mp hx
      simp [eLetters, e, c2]
    · intro d hd'
      rcases List.mem_append.mp hd' with q | q
      · exact hw d q
      · rw [List.mem_singleton.mp q]
        simpa using c1
    · rw [List.length_append, List.length_singleton]
      have : b + ((w.length + 1 : Nat) : Int) = b + w.length + 1 := by omega
      rw [this]; exact c3
  obtain ⟨out, S', e1, ⟨w, rfl, hw, hD⟩, hl⟩ := lc_indL n (cond := fun _ S => .ok (.bl true) S) (elt := ev Φ G eLetters) (tg := .one 2) (Γ := [some (.loc TS.T.length), some (.int n), none]) (xs := (List.range n).map fun i : Nat => D.int (i : Int)) (acc := []) (S := S)
    (I := fun acc S => ∃ w : List Nat, acc = w.map (fun c => .str [c]) ∧ Wd w ∧ DS (b + w.length) S) (by simp) ⟨[], rfl, (fun c hc => by cases hc), by simpa using hd⟩ hstep
  rw [List.length_map, List.length_map, List.length_range, List.length_nil, Nat.zero_add] at hl
  rw [hl] at hD
  have t := take1 hD
  have h62 : in62 (n : Int) = true := in62_of (by omega) (by omega)
  have hj := join_letters (f := fun c : Nat => c) (ks := w) (by show w.length ≤ 16777216; omega)
  rw [List.map_id'] at hj
  refine ⟨w, S', ?_, hw, hl, hD⟩
  have hle : n ≤ 16777216 := by omega
  simp [bLetters, it_rng1 h62 (by omega : (n : Int).toNat = n), rng0, szL, hle, e1, hj, t0.2, t.1]
def bEvenText : List CS := [.set (.one 2) (.bin .Add (.con (.int 1)) (.call "_law_draw" [.var 0, .con (.int 12)])),
  .ret (.call "_law_line" [.call "_law_draw" [.var 0, .bin .Add (.var 2) (.con (.int 1))], .var 2, .call "_law_draw" [.var 0, .var 2], .var 1])]
def EtOk [TS] (F : Fsem) : Prop := ∀ (b : Int) (n : Nat) (S : Sto), DS b S → b < 2 ^ 40 → n ≤ 1000 → ∃ w S', F [.loc TS.T.length, .int n] S = .ok (.str w) S' ∧ Wd w ∧ w.length = n ∧ DS (b + 3) S'
theorem etOk [TS] {Fd Fl : Fsem} (ed : Φ "_law_draw" = some Fd) (hd : DrawOk Fd) (el : Φ "_law_line" = some Fl) (hl : LnOk Fl) : EtOk (fsem Φ Φf G fuel 2 3 bEvenText) := by
  intro b n S h0 hb hn
  have t0 := take1 h0
  obtain ⟨r1, S1, e1, a1, a2, h1⟩ := hd b 12 S h0 (by omega) (by omega) (by omega)
  obtain ⟨r2, S2, e2, a3, a4, h2⟩ := hd (b + 1) (1 + r1 + 1) S1 h1 (by omega) (by omega) (by omega)
  obtain ⟨r3, S3, e3, a5, a6, h3⟩ := hd (b + 1 + 1) (1 + r1) S2 h2 (by omega) (by omega) (by omega)
  have e4 := hl r2 (1 + r1) r3 n S3 a3 (by omega) (by omega) (by omega) hn
  have t := take1 h3
  refine ⟨lineW r2 (1 + r1) r3 n, S3, ?_, lineW_wd _ _ _ _, lineW_len _ _ _ _, h3.mono (by omega)⟩
  simp [bEvenText, ed, el, e1, e2, e3, e4, t0.2, t.1]
def lNear : List CS := [.set (.one 4) (.call "_law_draw" [.var 0, .bin .Add (.var 1) (.con (.int 1))]),
  .set (.one 2) (.bin .Add (.bin .Add (.sl (.var 2) (.con .non) (.var 4)) (.call "_law_of" [.var 0, .lst [.con (.str [97]), .con (.str [98]), .con (.str [])]])) (.sl (.var 2) (.bin .Add (.var 4) (.con (.int 1))) (.con .non)))]
def bNear : List CS := [.set (.one 2) (.call "_law_even_text" [.var 0, .var 1]),
  .loop (.one 3) .rng [.call "_law_of" [.var 0, .lst [.con (.int 0), .con (.int 0), .con (.int 1), .con (.int 2)]]] lNear,
  .ret (.ite (.cmp .Gt (.call "_law_draw" [.var 0, .con (.int 4)]) (.con (.int 0))) (.var 2) (.call "_law_letters" [.var 0, .var 1]))]
def NtOk [TS] (F : Fsem) : Prop := ∀ (b : Int) (n : Nat) (S : Sto), DS b S → b < 2 ^ 39 → n ≤ 300 → ∃ w S', F [.loc TS.T.length, .int n] S = .ok (.str w) S' ∧ Wd w ∧ w.length ≤ n + 2 ∧ DS (b + 500) S'
theorem nt_body [TS] {Fd Fo : Fsem} (ed : Φ "_law_draw" = some Fd) (hd : DrawOk Fd) (eo : Φ "_law_of" = some Fo) (ho : OfOk Fo) {b : Int} {n : Nat} {S : Sto} {n0 : Nat} {t : List Nat} {x y : Option D} (h0 : DS b S) (hb : b < 2 ^ 40) (hn : n ≤ 1000) (ht : Wd t) (hl : t.length ≤ 2000) :
    ∃ t' r S', exSs Φ Φf G fuel n0 lNear [some (.loc TS.T.length), some (.int n), some (.str t), x, y] S = .next [some (.loc TS.T.length), some (.int n), some (.str t'), x, some (.int r)] S' ∧ Wd t' ∧ t'.length ≤ t.length + 1 ∧ DS (b + 2) S' := by
  have hz : szL = 16777216 := rfl
  obtain ⟨r, S1, e1, a1, a2, h1⟩ := hd b (n + 1) S h0 (by omega) (by omega) (by omega)
  obtain ⟨c, S2, c1, c2, c3⟩ := ho.1 (b + 1) [.str [97], .str [98], .str []] S1 h1 (by omega) (by simp) (by simp) (by simp)
  have s1 := sl_to (t := t) (i := r) (s := r.toNat) (by omega) (by omega)
  have s2 := sl_from (t := t) (i := r + 1) (s := r.toNat + 1) (by omega) (by omega)
  have fin : ∀ u : List Nat, c = .str u → Wd u → u.length ≤ 1 → ∃ t' r S', exSs Φ Φf G fuel n0 lNear [some (.loc TS.T.length), some (.int n), some (.str t), x, y] S = .next [some (.loc TS.T.length), some (.int n), some (.str t'), x, some (.int r)] S' ∧ Wd t' ∧ t'.length ≤ t.length + 1 ∧ DS (b + 2) S' := by
    intro u hu wu lu
    subst hu
    have l1 : (t.take r.toNat).length ≤ t.length := by rw [List.length_take]; omega
    have l2 : (t.drop (r.toNat + 1)).length ≤ t.length := by rw [List.length_drop]; omega
    have l3 : (t.take r.toNat).length + (t.drop (r.toNat + 1)).length ≤ t.length := by rw [List.length_take, List.length_drop]; omega
    have p1 := add_str (s := t.take r.toNat) (t := u) (by omega)
    have p2 := add_str (s := t.take r.toNat ++ u) (t := t.drop (r.toNat + 1)) (by rw [List.length_append]; omega)
    refine ⟨t.take r.toNat ++ u ++ t.drop (r.toNat + 1), r, S2, ?_, ?_, ?_, ?_⟩
    · simp only [List.append_assoc] at p2
      simp [lNear, ed, eo, e1, c2, s1, s2, p1, p2, szL]
    · intro d hd
      rcases List.mem_append.mp hd with q | q
      · rcases List.mem_append.mp q with q | q
        · exact ht d (List.mem_of_mem_take q)
        · exact wu d q
      · exact ht d (List.mem_of_mem_drop q)
    · rw [List.length_append, List.length_append]; omega
    · exact c3.mono (by omega)
  simp only [List.mem_cons, List.not_mem_nil, or_false] at c1
  rcases c1 with rfl | rfl | rfl
  · exact fin _ rfl (fun d hd => .inl (List.mem_singleton.mp hd)) (Nat.le_refl _)
  · exact fin _ rfl (fun d hd => .inr (List.mem_singleton.mp hd)) (Nat.le_refl _)
  · exact fin _ rfl (fun d hd => by cases hd) (Nat.zero_le _)
theorem ntOk [TS] {Fd Fo Fe Fl : Fsem} (ed : Φ "_law_draw" = some Fd) (hd : DrawOk Fd) (eo : Φ "_law_of" = some Fo) (ho : OfOk Fo) (ee : Φ "_law_even_text" = some Fe) (he : EtOk Fe) (el : Φ "_law_letters" = some Fl) (hl : LtOk Fl) : NtOk (fsem Φ Φf G fuel 2 5 bNear) := by
  intro b n S h0 hb hn
  have t0 := take1 h0
  obtain ⟨w, S1, e1, w1, w2, h1⟩ := he b n S h0 (by omega) (by omega)
  obtain ⟨c, S2, c1, c2, h2⟩ := ho.1 (b + 3) [.int 0, .int 0, .int 1, .int 2] S1 h1 (by omega) (by simp) (by simp) (by simp)
  have hc : ∃ m : Nat, c = .int m ∧ m ≤ 2 := by
    simp only [List.mem_cons, List.not_mem_nil, or_false] at c1
    rcases c1 with rfl | rfl | rfl | rfl
    · exact ⟨0, rfl, by omega⟩
    · exact ⟨0, rfl, by omega⟩
    · exact ⟨1, rfl, by omega⟩
    · exact ⟨2, rfl, by omega⟩
  obtain ⟨m, rfl, hm⟩ := hc
  have key := loop0 (body := exSs Φ Φf G fuel S.length lNear) (tg := .one 3) (items := rngL 0 m)
    (fun i Γ S' => i ≤ m ∧ DS (b + 4 + 2 * i) S' ∧ ∃ t x y, Γ = [some (.loc TS.T.length), some (.int n), some (.str t), x, y] ∧ Wd t ∧ t.length ≤ n + i)
    (fun r => ∃ t x y S', r = .next [some (.loc TS.T.length), some (.int n), some (.str t), x, y] S' ∧ Wd t ∧ t.length ≤ n + 2 ∧ DS (b + 8) S')
    (Γ := [some (.loc TS.T.length), some (.int n), some (.str w), none, none]) (S := S2)
    ⟨Nat.zero_le _, h2.mono (by omega), w, _, _, rfl, w1, by omega⟩ (fun i x Γ S' hi hI => ?_) (fun Γ S' ⟨q1, q2, t, x, y, q3, q4, q5⟩ => ⟨t, x, y, S', by rw [q3], q4, by omega, q2.mono (by omega)⟩)
  · obtain ⟨t, x, y, S3, e3, t1, t2, h3⟩ := key
    rw [t0.2] at e3
    have h62 : in62 (m : Int) = true := in62_of (by omega) (by omega)
    obtain ⟨r, S4, e4, a1, a2, h4⟩ := hd (b + 8) 4 S3 h3 (by omega) (by omega) (by omega)
    by_cases hr : 0 < r
    · have tt := take1 h4
      refine ⟨t, S4, ?_, t1, t2, h4.mono (by omega)⟩
      simp [bNear, ee, eo, ed, e1, c2, szL, it_rng1 h62 (by omega : (m : Int).toNat = m), e3, e4, hr, t0.2, tt.1]
    · obtain ⟨v, S5, e5, v1, v2, h5⟩ := hl (b + 8 + 1) n S4 h4 (by omega) (by omega)
      have tt := take1 h5
      refine ⟨v, S5, ?_, v1, by omega, h5.mono (by omega)⟩
      simp [bNear, ee, eo, ed, el, e1, c2, szL, it_rng1 h62 (by omega : (m : Int).toNat = m), e3, e4, hr, e5, t0.2, tt.1]
  · obtain ⟨q1, q2, t, y, z, rfl, t1, t2⟩ := hI
    obtain ⟨hi1, hi2⟩ := rngAt hi
    subst hi2
    obtain ⟨t', r, S4, e4, t3, t4, h4⟩ := nt_body (Φ := Φ) (Φf := Φf) (G := G) (fuel := fuel) (n0 := S.length) (x := some (.int (0 + (i : Int)))) (y := z) ed hd eo ho q2 (by omega) (n := n) (by omega) t1 (by omega)
    exact ⟨_, rfl, .inl ⟨_, _, e4, by omega, h4.mono (by omega), t', _, _, rfl, t3, by omega⟩⟩
end
end EK

set_option Elab.async false
set_option linter.all false
set_option maxRecDepth 100000
set_option maxHeartbeats 4000000
namespace EK
open PySem L2 PySem.Spec PyProof.Rows
theorem part_len {w : List Nat} {b L : Nat} (h : b + L ≤ w.length) : (Part w b L).length = L := by
  unfold Part
  rw [List.length_take, List.length_drop]; omega
theorem sl_part {w : List Nat} {i j : Int} {b L : Nat} (h : b + L ≤ w.length) (hz : w.length ≤ szL) (e1 : i = b) (e2 : j = ((b + L : Nat) : Int)) : slD (.str w) (some i) (some j) = some (.str (Part w b L)) := by
  subst e1 e2
  show (if w.length ≤ szL then some (D.str (cutL w _ _)) else none) = _
  rw [if_pos hz, cut_both (by omega) h, show b + L - b = L by omega]; rfl
theorem rngS_len {a c : Int} {n : Nat} : (rngS a c n).length = n := by simp [rngS]
theorem rngSAt {a c : Int} {n i : Nat} {x : D} (h : (rngS a c n)[i]? = some x) : i < n ∧ x = .int (a + i * c) := by
  have h1 := (List.getElem?_eq_some_iff.mp h).1
  rw [rngS_len] at h1
  unfold rngS at h
  rw [List.getElem?_map, List.getElem?_range h1] at h
  exact ⟨h1, (Option.some.inj h).symm⟩
theorem it_rng3 {a b : Int} {m : Nat} (h : in62 a = true) (h2 : in62 b = true) (e : (a - b).toNat = m) : itD .rng [.int a, .int b, .int (-1)] = some (rngS a (-1) m) := by
  show (if (-1 : Int) = -1 ∧ in62 a = true ∧ in62 b = true then some (rngS a (-1) (a - b).toNat) else none) = _
  rw [if_pos ⟨rfl, h, h2⟩, e]
theorem noU_nil : NoU [] := fun t h1 h2 => by rw [List.length_nil] at h2; omega
def lLong2 : List CS := [.ite (.cmp .Is (.call "_law_spread" [.sl (.var 0) (.var 2) (.bin .Add (.var 2) (.var 1))]) (.con .non)) [.ret (.sl (.var 0) (.var 2) (.bin .Add (.var 2) (.var 1)))] []]
def lLong1 : List CS := [.loop (.one 2) .rng [.bin .Add (.bin .Sub (.blt .len [.var 0]) (.var 1)) (.con (.int 1))] lLong2]
def bLong : List CS := [.loop (.one 1) .rng [.blt .len [.var 0], .con (.int 0), .neg (.con (.int 1))] lLong1,
  .ret (.con (.str []))]
section
variable {Φ Φf : Str → Option Fsem} {G : Str → Option D} {fuel : Nat}
theorem llOk {F : Fsem} (e : Φ "_law_spread" = some F) (h : SpOk F) : LgOk (fsem Φ Φf G fuel 1 3 bLong) := by
  intro w S hw h4
  have hz : szL = 16777216 := rfl
  have hsz := lt_sz h4
  have hle : w.length ≤ szL := by omega
  have in0 : in62 0 = true := rfl
  have inn : in62 (w.length : Int) = true := in62_of (by omega) (by omega)
  -- a turn of the inner loop
  have hb2 : ∀ b L : Nat, b + L ≤ w.length → (NoU (Part w b L) ∧ exSs Φ Φf G fuel S.length lLong2 [some (.str w), some (.int L), some (.int b)] S = .ret (.str (Part w b L)) S false) ∨
      (¬ NoU (Part w b L) ∧ exSs Φ Φf G fuel S.length lLong2 [some (.str w), some (.int L), some (.int b)] S = .next [some (.str w), some (.int L), some (.int b)] S) := by
    intro b L hbl
    have s1 := sl_part (w := w) (i := (b : Int)) (j := (b : Int) + L) hbl hle rfl (by omega)
    rcases h (Part w b L) S (by rw [part_len hbl]; omega) with ⟨q1, q2⟩ | ⟨s, q1, q2⟩
    · left
      refine ⟨q1, ?_⟩
      have c : cmpD .Is .non .non = some (.bl true) := rfl
      simp [lLong2, s1, e, q2, c]
    · right
      refine ⟨fun z => q1.no z, ?_⟩
      have c : cmpD .Is (.int s) .non = some (.bl false) := rfl
      simp [lLong2, s1, e, q2, c]
  -- the inner loop
  have hb1 : ∀ L : Nat, 1 ≤ L → L ≤ w.length → ∀ x, (∃ b, b + L ≤ w.length ∧ NoU (Part w b L) ∧ (∀ b', b' < b → ¬ NoU (Part w b' L)) ∧ exSs Φ Φf G fuel S.length lLong1 [some (.str w), some (.int L), x] S = .ret (.str (Part w b L)) S false) ∨
      ((∀ b', b' + L ≤ w.length → ¬ NoU (Part w b' L)) ∧ ∃ y, exSs Φ Φf G fuel S.length lLong1 [some (.str w), some (.int L), x] S = .next [some (.str w), some (.int L), y] S) := by
    intro L h1 h2 x
    have key := loop0 (body := exSs Φ Φf G fuel S.length lLong2) (tg := .one 2) (items := rngL 0 (w.length - L + 1))
      (fun i Γ S' => S' = S ∧ (∃ y, Γ = [some (.str w), some (.int L), y]) ∧ ∀ b', b' < i → ¬ NoU (Part w b' L))
      (fun r => (∃ b, b + L ≤ w.length ∧ NoU (Part w b L) ∧ (∀ b', b' < b → ¬ NoU (Part w b' L)) ∧ r = .ret (.str (Part w b L)) S false) ∨ ((∀ b', b' + L ≤ w.length → ¬ NoU (Part w b' L)) ∧ ∃ y, r = .next [some (.str w), some (.int L), y] S))
      (Γ := [some (.str w), some (.int L), x]) (S := S) ⟨rfl, ⟨_, rfl⟩, fun b' z => by omega⟩ (fun i y Γ S' hi hI => ?_) (fun Γ S' ⟨q1, ⟨y, q2⟩, q3⟩ => .inr ⟨fun b' z => q3 b' (by rw [rng_len]; omega), y, by rw [q1, q2]⟩)
    · have hin : in62 ((w.length : Int) - L + 1) = true := in62_of (by omega) (by omega)
      have ht : ((w.length : Int) - L + 1).toNat = w.length - L + 1 := by omega
      rcases key with ⟨b, k1, k2, k3, k4⟩ | ⟨k1, y, k4⟩
      · left
        refine ⟨b, k1, k2, k3, ?_⟩
        simp [lLong1, lenS hle, it_rng1 hin ht, k4]
      · right
        refine ⟨k1, y, ?_⟩
        simp [lLong1, lenS hle, it_rng1 hin ht, k4]
    · obtain ⟨rfl, ⟨z, rfl⟩, q⟩ := hI
      obtain ⟨hi1, hi2⟩ := rngAt hi
      subst hi2
      rw [Int.zero_add]
      refine ⟨_, rfl, ?_⟩
      rcases hb2 i L (by omega) with ⟨u1, u2⟩ | ⟨u1, u2⟩
      · exact .inr ⟨_, _, _, u2, .inl ⟨i, by omega, u1, q, rfl⟩⟩
      · refine .inl ⟨_, _, u2, rfl, ⟨_, rfl⟩, fun b' hb' => ?_⟩
        by_cases e : b' = i
        · subst e; exact u1
        · exact q b' (by omega)
  have key := loop0 (body := exSs Φ Φf G fuel S.length lLong1) (tg := .one 1) (items := rngS w.length (-1) w.length)
    (fun i Γ S' => S' = S ∧ (∃ x y, Γ = [some (.str w), x, y]) ∧ ∀ b' L', b' + L' ≤ w.length → NoU (Part w b' L') → L' + i ≤ w.length)
    (fun r => (∃ v, Lgst w v ∧ r = .ret (.str v) S false) ∨ (Lgst w [] ∧ ∃ Γ, r = .next Γ S))
    (Γ := [some (.str w), none, none]) (S := S) ⟨rfl, ⟨_, _, rfl⟩, fun b' L' z _ => by omega⟩ (fun i x Γ S' hi hI => ?_) (fun Γ S' ⟨q1, ⟨x, y, q2⟩, q3⟩ => .inr ⟨?_, Γ, by rw [q1]⟩)
  · have ht : ((w.length : Int) - 0).toNat = w.length := by omega
    rcases key with ⟨v, k1, k2⟩ | ⟨k1, Γ, k2⟩
    · refine ⟨v, k1, ?_⟩
      simp [bLong, lenS hle, it_rng3 inn in0 ht, k2]
    · refine ⟨[], k1, ?_⟩
      simp [bLong, lenS hle, it_rng3 inn in0 ht, k2]
  · obtain ⟨rfl, ⟨y, z, rfl⟩, q⟩ := hI
    obtain ⟨hi1, hi2⟩ := rngSAt hi
    subst hi2
    have e : D.int ((w.length : Int) + (i : Int) * -1) = D.int ((w.length - i : Nat) : Int) := by
      congr 1; omega
    rw [e]
    refine ⟨_, rfl, ?_⟩
    rcases hb1 (w.length - i) (by omega) (by omega) z with ⟨b, k1, k2, k3, k4⟩ | ⟨k1, y', k4⟩
    · refine .inr ⟨_, _, _, k4, .inl ⟨_, ⟨b, w.length - i, k1, rfl, k2, fun b' L' g1 g2 => ?_⟩, rfl⟩⟩
      have := q b' L' g1 g2
      by_cases hl : L' = w.length - i
      · refine .inr ⟨hl, ?_⟩
        subst hl
        exact Nat.le_of_not_lt fun z => k3 b' z g2
      · left; omega
    · refine .inl ⟨_, _, k4, rfl, ⟨_, _, rfl⟩, fun b' L' g1 g2 => ?_⟩
      have := q b' L' g1 g2
      by_cases hl : L' = w.length - i
      · subst hl
        exact absurd g2 (k1 b' g1)
      · omega
  · rw [rngS_len] at q3
    refine ⟨0, 0, by omega, by simp [Part], noU_nil, fun b' L' g1 g2 => ?_⟩
    have := q3 b' L' g1 g2
    right
    omega
end
end EK

set_option Elab.async false
set_option linter.all false
set_option maxRecDepth 100000
set_option maxHeartbeats 4000000
namespace EK
open PySem L2 PySem.Spec PyProof.Rows
/-! ### parts of a word and their windows -/
theorem cnt_part {w : List Nat} {b L i : Nat} (h : i ≤ L) : cnt (Part w b L) i = cnt w (b + i) - cnt w b := by
  unfold cnt Part
  rw [List.take_take, Nat.min_eq_left h, List.take_add, List.count_append]
  omega
theorem win_part {w : List Nat} {b L s p : Nat} (h : p + s ≤ L) : win (Part w b L) s p = win w s (b + p) := by
  unfold win
  rw [cnt_part h, cnt_part (by omega), show b + (p + s) = b + p + s by omega]
  omega
theorem cnt_step {w : List Nat} {i : Nat} : 0 ≤ cnt w (i + 1) - cnt w i ∧ cnt w (i + 1) - cnt w i ≤ 1 := by
  cases h : w[i]? with
  | none =>
    have hl := List.getElem?_eq_none_iff.mp h
    unfold cnt
    rw [List.take_of_length_le (by omega), List.take_of_length_le hl]
    omega
  | some c =>
    rw [cnt_succ h]
    split <;> omega
theorem win_step {w : List Nat} {s p : Nat} : -1 ≤ win w s (p + 1) - win w s p ∧ win w s (p + 1) - win w s p ≤ 1 := by
  unfold win
  have h1 := cnt_step (w := w) (i := p + s)
  have h2 := cnt_step (w := w) (i := p)
  rw [show p + 1 + s = p + s + 1 by omega]
  omega
/-- windows change by one: between two that are far apart lies one at distance two -/
theorem win_two {w : List Nat} {s p : Nat} : ∀ m : Nat, (2 ≤ win w s (p + m) - win w s p ∨ 2 ≤ win w s p - win w s (p + m)) → ∃ t, 0 < t ∧ t ≤ m ∧ (win w s (p + t) - win w s p = 2 ∨ win w s p - win w s (p + t) = 2)
  | 0, h => by
    rw [Nat.add_zero] at h
    omega
  | m + 1, h => by
    have st := win_step (w := w) (s := s) (p := p + m)
    rw [show p + m + 1 = p + (m + 1) by omega] at st
    by_cases h2 : win w s (p + (m + 1)) - win w s p = 2 ∨ win w s p - win w s (p + (m + 1)) = 2
    · exact ⟨m + 1, by omega, Nat.le_refl _, h2⟩
    · obtain ⟨t, t1, t2, t3⟩ := win_two (w := w) (s := s) (p := p) m (by omega)
      exact ⟨t, t1, by omega, t3⟩
/-- p begins a window that lies apart by two from a later one, all within e -/
def Vb (w : List Nat) (p e : Nat) : Prop := ∃ s q, 2 ≤ s ∧ p < q ∧ q + s ≤ e ∧ (win w s q - win w s p = 2 ∨ win w s p - win w s q = 2)
theorem noU_part {w : List Nat} {b e : Nat} (hb : b ≤ e) (he : e ≤ w.length) : NoU (Part w b (e - b)) ↔ ∀ p, Vb w p e → p < b := by
  have hl : (Part w b (e - b)).length = e - b := part_len (by omega)
  constructor
  · intro h p ⟨s, q, h1, h2, h3, h4⟩
    refine Nat.lt_of_not_le fun hp => ?_
    refine h s (by omega) (by rw [hl]; omega) ?_
    rcases h4 with h4 | h4
    · refine ⟨q - b, p - b, by rw [hl]; omega, by rw [hl]; omega, ?_⟩
      rw [win_part (by omega), win_part (by omega), show b + (q - b) = q by omega, show b + (p - b) = p by omega]
      omega
    · refine ⟨p - b, q - b, by rw [hl]; omega, by rw [hl]; omega, ?_⟩
      rw [win_part (by omega), win_part (by omega), show b + (q - b) = q by omega, show b + (p - b) = p by omega]
      omega
  · intro h s h1 h2 ⟨p, q, h3, h4, h5⟩
    rw [hl] at h2 h3 h4
    rw [win_part (by omega), win_part (by omega)] at h5
    have hs : 2 ≤ s := by
      by_cases e1 : s = 1
      · subst e1
        have := win_one (w := w) (p := b + p) (by omega)
        have := win_one (w := w) (p := b + q) (by omega)
        omega
      · omega
    rcases Nat.lt_trichotomy p q with c | c | c
    · obtain ⟨t, t1, t2, t3⟩ := win_two (w := w) (s := s) (p := b + p) (q - p) (by rw [show b + p + (q - p) = b + q by omega]; omega)
      have := h (b + p) ⟨s, b + p + t, hs, by omega, by omega, t3⟩
      omega
    · subst c; omega
    · obtain ⟨t, t1, t2, t3⟩ := win_two (w := w) (s := s) (p := b + q) (p - q) (by rw [show b + q + (p - q) = b + p by omega]; omega)
      have := h (b + q) ⟨s, b + q + t, hs, by omega, by omega, t3⟩
      omega
/-- f is the least number above all p with P -/
def Mx (P : Nat → Prop) (f : Nat) : Prop := (f = 0 ∨ ∃ p, f = p + 1 ∧ P p) ∧ ∀ p, P p → p < f
theorem Mx.or {P Q : Nat → Prop} {f g : Nat} (h : Mx P f) (h' : Mx Q g) : Mx (fun p => P p ∨ Q p) (max f g) := by
  constructor
  · by_cases c : f ≤ g
    · rw [Nat.max_eq_right c]
      rcases h'.1 with q | ⟨p, q1, q2⟩
      · exact .inl q
      · exact .inr ⟨p, q1, .inr q2⟩
    · rw [Nat.max_eq_left (by omega)]
      rcases h.1 with q | ⟨p, q1, q2⟩
      · exact .inl q
      · exact .inr ⟨p, q1, .inl q2⟩
  · intro p hp
    rcases hp with hp | hp
    · have := h.2 p hp; omega
    · have := h'.2 p hp; omega
theorem Mx.iff {P Q : Nat → Prop} {f : Nat} (h : Mx P f) (e : ∀ p, P p ↔ Q p) : Mx Q f := by
  constructor
  · rcases h.1 with q | ⟨p, q1, q2⟩
    · exact .inl q
    · exact .inr ⟨p, q1, (e p).mp q2⟩
  · exact fun p hp => h.2 p ((e p).mpr hp)
theorem noU_mx {w : List Nat} {b e f : Nat} (h : Mx (fun p => Vb w p e) f) (hb : b ≤ e) (he : e ≤ w.length) : NoU (Part w b (e - b)) ↔ f ≤ b := by
  rw [noU_part hb he]
  constructor
  · intro q
    rcases h.1 with z | ⟨p, z1, z2⟩
    · omega
    · have := q p z2; omega
  · intro q p hp
    have := h.2 p hp; omega
/-- from the table of begins to the longest part -/
theorem lgst_of {w : List Nat} {f : Nat → Nat} {e : Nat} (hf : ∀ e, e ≤ w.length → Mx (fun p => Vb w p e) (f e) ∧ f e ≤ e) (he : e ≤ w.length) (hm : ∀ e', e' ≤ w.length → e' - f e' < e - f e ∨ (e' - f e' = e - f e ∧ f e ≤ f e')) : Lgst w (Part w (f e) (e - f e)) := by
  have h1 := (hf e he).2
  refine ⟨f e, e - f e, by omega, rfl, (noU_mx (hf e he).1 h1 he).mpr (Nat.le_refl _), fun b' L' g1 g2 => ?_⟩
  have h2 := hf (b' + L') g1
  have g3 : NoU (Part w b' (b' + L' - b')) := by rw [show b' + L' - b' = L' by omega]; exact g2
  have h3 := (noU_mx h2.1 (by omega) g1).mp g3
  have h4 := hm (b' + L') g1
  omega
theorem vb_lt {w : List Nat} {e f : Nat} (h : Mx (fun p => Vb w p e) f) : f ≤ e := by
  rcases h.1 with z | ⟨p, z1, s, q, z2, z3, z4, _⟩
  · omega
  · omega
end EK

set_option Elab.async false
set_option linter.all false
set_option maxRecDepth 100000
set_option maxHeartbeats 4000000
namespace EK
open PySem L2 PySem.Spec PyProof.Rows
section
variable {S : Sto} {a b x : O}
@[simp] theorem two_get1 : (S ++ [a, b])[S.length]? = some a := by rw [List.getElem?_append_right (Nat.le_refl _), Nat.sub_self]; rfl
@[simp] theorem two_get2 : (S ++ [a, b])[S.length + 1]? = some b := by rw [List.getElem?_append_right (by omega), show S.length + 1 - S.length = 1 by omega]; rfl
@[simp] theorem two_set1 : (S ++ [a, b]).set S.length x = S ++ [x, b] := by rw [List.set_append_right _ _ (Nat.le_refl _), Nat.sub_self]; rfl
@[simp] theorem two_set2 : (S ++ [a, b]).set (S.length + 1) x = S ++ [a, x] := by rw [List.set_append_right _ _ (by omega), show S.length + 1 - S.length = 1 by omega]; rfl
@[simp] theorem two_take : (S ++ [a, b]).take (S.length + 1) = S ++ [a] := by
  rw [List.take_append, List.take_of_length_le (by omega), show S.length + 1 - S.length = 1 by omega]; rfl
@[simp] theorem two_vw1 : vw (S ++ [a, b]) (.loc S.length) = ofO a := by
  unfold vw
  dsimp only
  rw [two_get1]
  cases a <;> rfl
@[simp] theorem two_vw2 : vw (S ++ [a, b]) (.loc (S.length + 1)) = ofO b := by
  unfold vw
  dsimp only
  rw [two_get2]
  cases b <;> rfl
end
def fL (n : Nat) (f : Nat → Nat) : List D := (List.range (n + 1)).map fun e => D.int (f e : Nat)
theorem fL_len (n : Nat) (f : Nat → Nat) : (fL n f).length = n + 1 := by simp [fL]
theorem fL_get {n e : Nat} {f : Nat → Nat} (h : e ≤ n) : (fL n f)[e]? = some (.int (f e : Nat)) := by
  unfold fL
  rw [List.getElem?_map, List.getElem?_range (by omega)]; rfl
def upF (f : Nat → Nat) (m v : Nat) : Nat → Nat := fun e => if e = m then v else f e
theorem fL_set {n m v : Nat} {f : Nat → Nat} : (fL n f).set m (.int (v : Nat)) = fL n (upF f m v) := by
  apply List.ext_getElem?
  intro i
  unfold fL upF
  rw [List.getElem?_set]
  by_cases hi : i < n + 1
  · rw [List.getElem?_map, List.getElem?_map, List.getElem?_range hi, List.length_map, List.length_range]
    by_cases e : m = i
    · subst e; simp [hi]
    · have e' : ¬ i = m := fun z => e z.symm
      simp [e, e']
  · rw [List.getElem?_eq_none (l := List.map _ _) (by simp; omega), List.getElem?_eq_none (l := List.map _ _) (by simp; omega)]
    split
    · rename_i h; simp; omega
    · rfl
theorem ix_of {n m : Nat} {i : Int} (e : i = m) (h : m < n) : ixN n i = some m := by
  subst e
  unfold ixN
  rw [if_pos (by omega), if_pos (by omega), Int.toNat_natCast]
/-! the dict of last places -/
theorem getK_put {es : List (Key × D)} {k k' : Key} {d : D} : getK (putKD es k d) k' = if k = k' then some d else getK es k' := by
  unfold putKD
  by_cases h : (es.any fun kv => decide (kv.1 = k)) = true
  · rw [if_pos h]
    unfold getK
    induction es with
    | nil => simp at h
    | cons kv es ih =>
      rw [List.map_cons, List.find?_cons, List.find?_cons]
      by_cases h1 : kv.1 = k
      · by_cases h2 : k = k'
        · simp [h1, h2]
        · rw [if_pos h1]
          have h3 : ¬ kv.1 = k' := by rw [h1]; exact h2
          simp only [h3, decide_false]
          by_cases h4 : (es.any fun kv => decide (kv.1 = k)) = true
          · have := ih h4; rw [if_neg h2] at this ⊢; exact this
          · rw [if_neg h2]
            have e : es.map (fun kv => if kv.1 = k then (kv.1, d) else kv) = es := by
              conv => rhs; rw [← List.map_id es]
              apply List.map_congr_left
              intro q hq
              rw [if_neg]
              · rfl
              · intro z
                exact h4 (List.any_eq_true.mpr ⟨q, hq, by simpa using z⟩)
            rw [e]
      · rw [if_neg h1]
        by_cases h3 : kv.1 = k'
        · have h2 : ¬ k = k' := fun z => h1 (h3.trans z.symm)
          simp [h3, h2]
        · simp only [h3, decide_false]
          exact ih (by simpa [h1] using h)
  · rw [if_neg h]
    unfold getK
    rw [List.find?_append]
    by_cases h2 : k = k'
    · have : es.find? (fun kv => decide (kv.1 = k')) = none := by
        rw [List.find?_eq_none]
        intro q hq z
        exact h (List.any_eq_true.mpr ⟨q, hq, by rw [h2]; exact z⟩)
      rw [this, if_pos h2]
      simp [h2]
    · rw [if_neg h2]
      cases hf : es.find? (fun kv => decide (kv.1 = k')) with
      | some q => rfl
      | none => simp [h2]
theorem put_len {es : List (Key × D)} {k : Key} {d : D} : (putKD es k d).length ≤ es.length + 1 := by
  unfold putKD
  split
  · rw [List.length_map]; omega
  · rw [List.length_append]; simp
def LastOk (w : List Nat) (s j : Nat) (es : List (Key × D)) : Prop := es.length ≤ j ∧ ∀ v : Int, ∃ g : Nat, (getK es (.inl v)).getD (.int (-1)) = .int ((g : Int) - 1) ∧ Mx (fun p => p < j ∧ win w s p = v) g
theorem LastOk.nil (w : List Nat) (s : Nat) : LastOk w s 0 [] := ⟨Nat.le_refl _, fun v => ⟨0, rfl, .inl rfl, fun p h => by omega⟩⟩
theorem LastOk.put {w : List Nat} {s j : Nat} {es : List (Key × D)} (h : LastOk w s j es) : LastOk w s (j + 1) (putKD es (.inl (win w s j)) (.int (j : Nat))) := by
  refine ⟨Nat.le_trans put_len (by have := h.1; omega), fun v => ?_⟩
  rw [getK_put]
  by_cases e : win w s j = v
  · subst e
    refine ⟨j + 1, ?_, .inr ⟨j, rfl, by omega, rfl⟩, fun p hp => hp.1⟩
    rw [if_pos rfl]
    show D.int (j : Nat) = _
    congr 1; omega
  · obtain ⟨g, g1, g2⟩ := h.2 v
    refine ⟨g, ?_, g2.iff fun p => ⟨fun ⟨q1, q2⟩ => ⟨by omega, q2⟩, fun ⟨q1, q2⟩ => ⟨?_, q2⟩⟩⟩
    · rw [if_neg (fun z => e (Sum.inl.inj z))]; exact g1
    · by_cases z : p = j
      · subst z; exact absurd q2 e
      · omega
end EK

set_option Elab.async false
set_option linter.all false
set_option maxRecDepth 100000
set_option maxHeartbeats 4000000
namespace EK
open PySem L2 PySem.Spec PyProof.Rows
def lBg2 : List CS := [.set (.one 7) (.bin .Sub (.idx (.var 3) (.bin .Add (.var 6) (.var 1))) (.idx (.var 3) (.var 6))),
  .set (.one 8) (.bin .Add (.blt .max [.dget (.var 5) (.bin .Sub (.var 7) (.con (.int 2))) (.neg (.con (.int 1))), .dget (.var 5) (.bin .Add (.var 7) (.con (.int 2))) (.neg (.con (.int 1)))]) (.con (.int 1))),
  .putL 4 (.bin .Add (.var 6) (.var 1)) (.blt .max [.idx (.var 4) (.bin .Add (.var 6) (.var 1)), .var 8]),
  .putD 5 (.var 7) (.var 6)]
def lBg1 : List CS := [.own 5 (.dnew),
  .loop (.one 6) .rng [.bin .Add (.bin .Sub (.blt .len [.var 0]) (.var 1)) (.con (.int 1))] lBg2,
  .frz 5]
def lBg3 : List CS := [.putL 4 (.var 2) (.blt .max [.idx (.var 4) (.var 2), .idx (.var 4) (.bin .Sub (.var 2) (.con (.int 1)))])]
def bBegins : List CS := [.par [3, 4] [.inl (.call "heights_of" [.var 0]), .inr (.rep [.con (.int 0)] (.bin .Add (.blt .len [.var 0]) (.con (.int 1))))],
  .loop (.one 1) .rng [.con (.int 2), .blt .len [.var 0]] lBg1,
  .loop (.one 2) .rng [.con (.int 1), .blt .len [.var 4]] lBg3,
  .frz 4,
  .ret (.var 4)]
theorem max_two {i j : Int} : maxD [.int i, .int j] = some (.int (if j > i then j else i)) := rfl
theorem max_nat {i j : Nat} : (if (j : Int) > (i : Int) then (j : Int) else (i : Int)) = ((max i j : Nat) : Int) := by
  by_cases h : (j : Int) > (i : Int)
  · rw [if_pos h, Nat.max_eq_right (by omega)]
  · rw [if_neg h, Nat.max_eq_left (by omega)]
@[simp] theorem isDic_dic {es : List (Key × D)} : isDic (.dic es) = true := rfl
theorem dget_int {es : List (Key × D)} {v : Int} {d : D} : dgetD (.dic es) (.int v) d = some ((getK es (.inl v)).getD d) := rfl
@[simp] theorem key_int {v : Int} : keyD (.int v) = some (.inl v) := rfl
def hD (w : List Nat) : D := .lst ((hL w w.length).map .int)
section
variable {Φ Φf : Str → Option Fsem} {G : Str → Option D} {fuel : Nat}
theorem bg_body2 {w : List Nat} {S : Sto} {n0 s j : Nat} {f : Nat → Nat} {es : List (Key × D)} {x y z : Option D} (hw : w.length ≤ 400) (hj : j + s ≤ w.length) (hl : LastOk w s j es) :
    ∃ g1 g2 : Nat, Mx (fun p => p < j ∧ win w s p = win w s j - 2) g1 ∧ Mx (fun p => p < j ∧ win w s p = win w s j + 2) g2 ∧ ∃ y' z' es', LastOk w s (j + 1) es' ∧
    exSs Φ Φf G fuel n0 lBg2 [some (.str w), some (.int s), x, some (hD w), some (.loc S.length), some (.loc (S.length + 1)), some (.int j), y, z] (S ++ [.lst (fL w.length f), .dic es]) =
      .next [some (.str w), some (.int s), x, some (hD w), some (.loc S.length), some (.loc (S.length + 1)), some (.int j), y', z'] (S ++ [.lst (fL w.length (upF f (j + s) (max (f (j + s)) (max g1 g2)))), .dic es']) := by
  have hz : szL = 16777216 := rfl
  obtain ⟨g1, a1, a2⟩ := hl.2 (win w s j - 2)
  obtain ⟨g2, b1, b2⟩ := hl.2 (win w s j + 2)
  obtain ⟨m, hm⟩ : ∃ m, m = max g1 g2 := ⟨_, rfl⟩
  obtain ⟨M, hM⟩ : ∃ M, M = max (f (j + s)) m := ⟨_, rfl⟩
  refine ⟨g1, g2, a2, b2, some (.int (win w s j)), some (.int (m : Int)), _, hl.put, ?_⟩
  rw [← hm, ← hM]
  have i1 : idxD (hD w) (.int ((j : Int) + s)) = some (.int (cnt w (j + s))) := idx_nat (hL_get (w := w) (n := w.length) (i := j + s) hj) (by omega)
  have i2 : idxD (hD w) (.int (j : Int)) = some (.int (cnt w j)) := idx_nat (hL_get (w := w) (n := w.length) (i := j) (by omega)) rfl
  have e0 : cnt w (j + s) - cnt w j = win w s j := rfl
  have v0 : ∀ S, vw S (hD w) = hD w := fun _ => rfl
  have m1 : maxD [.int ((g1 : Int) - 1), .int ((g2 : Int) - 1)] = some (.int ((m : Int) - 1)) := by
    rw [max_two, hm]
    congr 2
    have := max_nat (i := g1) (j := g2)
    split <;> split at this <;> omega
  have i3 : idxD (.lst (fL w.length f)) (.int ((j : Int) + s)) = some (.int (f (j + s) : Nat)) := idx_nat (fL_get hj) (by omega)
  have i4 := ix_of (n := (fL w.length f).length) (m := j + s) (i := (j : Int) + s) (by omega) (by rw [fL_len]; omega)
  have m2 : maxD [.int ((f (j + s) : Nat) : Int), .int (m : Int)] = some (.int (M : Int)) := by
    rw [max_two, max_nat, hM]
  have hes : es.length < szL := by have := hl.1; omega
  have d1 : dgetD (.dic es) (.int (win w s j - 2)) (.int (-1)) = some (.int ((g1 : Int) - 1)) := by rw [dget_int, a1]
  have d2 : dgetD (.dic es) (.int (win w s j + 2)) (.int (-1)) = some (.int ((g2 : Int) - 1)) := by rw [dget_int, b1]
  simp [lBg2, i1, i2, v0, e0, d1, d2, m1, i3, i4, m2, hes, fL_set]
def Two (w : List Nat) (s p q : Nat) : Prop := win w s q - win w s p = 2 ∨ win w s p - win w s q = 2
def Vs (w : List Nat) (s j p e : Nat) : Prop := ∃ s' q, 2 ≤ s' ∧ p < q ∧ q + s' = e ∧ (s' < s ∨ (s' = s ∧ q < j)) ∧ Two w s' p q
def FInv (w : List Nat) (s j : Nat) (f : Nat → Nat) : Prop := ∀ e, e ≤ w.length → Mx (fun p => Vs w s j p e) (f e)
theorem FInv.step {w : List Nat} {s j g1 g2 : Nat} {f : Nat → Nat} (h : FInv w s j f) (hs : 2 ≤ s) (hj : j + s ≤ w.length) (h1 : Mx (fun p => p < j ∧ win w s p = win w s j - 2) g1) (h2 : Mx (fun p => p < j ∧ win w s p = win w s j + 2) g2) :
    FInv w s (j + 1) (upF f (j + s) (max (f (j + s)) (max g1 g2))) := by
  intro e he
  unfold upF
  by_cases c : e = j + s
  · subst c
    rw [if_pos rfl]
    refine ((h _ he).or (h1.or h2)).iff fun p => ⟨?_, ?_⟩
    · rintro (⟨s', q, a1, a2, a3, a4, a5⟩ | ⟨a1, a2⟩ | ⟨a1, a2⟩)
      · exact ⟨s', q, a1, a2, a3, by omega, a5⟩
      · exact ⟨s, j, hs, a1, rfl, by omega, .inl (by omega)⟩
      · exact ⟨s, j, hs, a1, rfl, by omega, .inr (by omega)⟩
    · rintro ⟨s', q, a1, a2, a3, a4, a5⟩
      by_cases z : s' = s
      · subst z
        have : q = j := by omega
        subst this
        right
        rcases a5 with a5 | a5
        · exact .inl ⟨a2, by omega⟩
        · exact .inr ⟨a2, by omega⟩
      · exact .inl ⟨s', q, a1, a2, a3, by omega, a5⟩
  · rw [if_neg c]
    refine (h e he).iff fun p => ⟨?_, ?_⟩
    · rintro ⟨s', q, a1, a2, a3, a4, a5⟩
      exact ⟨s', q, a1, a2, a3, by omega, a5⟩
    · rintro ⟨s', q, a1, a2, a3, a4, a5⟩
      refine ⟨s', q, a1, a2, a3, ?_, a5⟩
      by_cases z : s' = s
      · subst z; omega
      · omega
theorem FInv.up {w : List Nat} {s : Nat} {f : Nat → Nat} (h : FInv w s (w.length - s + 1) f) : FInv w (s + 1) 0 f := by
  intro e he
  refine (h e he).iff fun p => ⟨?_, ?_⟩
  · rintro ⟨s', q, a1, a2, a3, a4, a5⟩
    exact ⟨s', q, a1, a2, a3, by omega, a5⟩
  · rintro ⟨s', q, a1, a2, a3, a4, a5⟩
    exact ⟨s', q, a1, a2, a3, by omega, a5⟩
theorem thaw1_ne {k j : Nat} {d : D} (h : j ≠ k) : thaw1 k d (some (.loc j)) = some (.loc j) := by
  show (if j = k then some d else some (.loc j)) = _
  rw [if_neg h]
theorem bg_inner {w : List Nat} {S : Sto} {s : Nat} {f : Nat → Nat} {y2 y5 y6 y7 y8 : Option D} (hw : w.length ≤ 400) (hs : 2 ≤ s) (hsn : s < w.length) (hf : FInv w s 0 f) :
    ∃ f' x2 x5 x6 x7 x8, FInv w (s + 1) 0 f' ∧ exSs Φ Φf G fuel S.length lBg1 [some (.str w), some (.int s), y2, some (hD w), some (.loc S.length), y5, y6, y7, y8] (S ++ [.lst (fL w.length f)]) =
      .next [some (.str w), some (.int s), x2, some (hD w), some (.loc S.length), x5, x6, x7, x8] (S ++ [.lst (fL w.length f')]) := by
  have key := loop0 (body := exSs Φ Φf G fuel S.length lBg2) (tg := .one 6) (items := rngL 0 (w.length - s + 1))
    (fun i Γ S' => ∃ f' es x6 x7 x8, FInv w s i f' ∧ LastOk w s i es ∧ Γ = [some (.str w), some (.int s), y2, some (hD w), some (.loc S.length), some (.loc (S.length + 1)), x6, x7, x8] ∧ S' = S ++ [.lst (fL w.length f'), .dic es])
    (fun r => ∃ f' es x6 x7 x8, FInv w (s + 1) 0 f' ∧ r = .next [some (.str w), some (.int s), y2, some (hD w), some (.loc S.length), some (.loc (S.length + 1)), x6, x7, x8] (S ++ [.lst (fL w.length f'), .dic es]))
    (Γ := [some (.str w), some (.int s), y2, some (hD w), some (.loc S.length), some (.loc (S.length + 1)), y6, y7, y8]) (S := S ++ [.lst (fL w.length f), .dic []])
    ⟨f, [], _, _, _, hf, LastOk.nil w s, rfl, rfl⟩ (fun i x Γ S' hi hI => ?_) (fun Γ S' ⟨f', es, x6, x7, x8, q1, q2, q3, q4⟩ => ⟨f', es, x6, x7, x8, FInv.up (by rw [rng_len] at q1; exact q1), by rw [q3, q4]⟩)
  · obtain ⟨f', es, x6, x7, x8, q1, q2⟩ := key
    have hle : w.length ≤ szL := by show _ ≤ 16777216; omega
    have hin : in62 ((w.length : Int) - s + 1) = true := in62_of (by omega) (by omega)
    have ht : ((w.length : Int) - s + 1).toNat = w.length - s + 1 := by omega
    have t1 : thaw1 (S.length + 1) (.dic es) (some (hD w)) = some (hD w) := rfl
    have t2 : thaw1 (S.length + 1) (.dic es) (some (.loc S.length)) = some (.loc S.length) := thaw1_ne (by omega)
    refine ⟨f', thaw1 (S.length + 1) (.dic es) y2, some (.dic es), thaw1 (S.length + 1) (.dic es) x6, thaw1 (S.length + 1) (.dic es) x7, thaw1 (S.length + 1) (.dic es) x8, q1, ?_⟩
    simp [lBg1, lenS hle, it_rng1 hin ht, q2, t1, t2]
  · obtain ⟨f', es, x6, x7, x8, q1, q2, rfl, rfl⟩ := hI
    obtain ⟨hi1, hi2⟩ := rngAt hi
    subst hi2
    rw [Int.zero_add]
    obtain ⟨g1, g2, a1, a2, y', z', es', a3, a4⟩ := bg_body2 (Φ := Φ) (Φf := Φf) (G := G) (fuel := fuel) (S := S) (n0 := S.length) (x := y2) (y := x7) (z := x8) (f := f') hw (by omega) q2
    exact ⟨_, rfl, .inl ⟨_, _, a4, _, es', _, _, _, q1.step hs (by omega) a1 a2, a3, rfl, rfl⟩⟩
/-- all pairs that end at e -/
def Vq (w : List Nat) (p e : Nat) : Prop := ∃ s' q, 2 ≤ s' ∧ p < q ∧ q + s' = e ∧ Two w s' p q
theorem FInv.all {w : List Nat} {f : Nat → Nat} (h : FInv w (2 + (w.length - 2)) 0 f) : ∀ e, e ≤ w.length → Mx (fun p => Vq w p e) (f e) := by
  intro e he
  refine (h e he).iff fun p => ⟨?_, ?_⟩
  · rintro ⟨s', q, a1, a2, a3, a4, a5⟩
    exact ⟨s', q, a1, a2, a3, a5⟩
  · rintro ⟨s', q, a1, a2, a3, a5⟩
    exact ⟨s', q, a1, a2, a3, by omega, a5⟩
theorem vb_zero {w : List Nat} {p : Nat} : Vq w p 0 ↔ Vb w p 0 := by
  constructor
  · rintro ⟨s', q, a1, a2, a3, a5⟩; omega
  · rintro ⟨s', q, a1, a2, a3, a5⟩; omega
theorem vb_succ {w : List Nat} {p e : Nat} : (Vq w p (e + 1) ∨ Vb w p e) ↔ Vb w p (e + 1) := by
  constructor
  · rintro (⟨s', q, a1, a2, a3, a5⟩ | ⟨s', q, a1, a2, a3, a5⟩)
    · exact ⟨s', q, a1, a2, by omega, a5⟩
    · exact ⟨s', q, a1, a2, by omega, a5⟩
  · rintro ⟨s', q, a1, a2, a3, a5⟩
    by_cases z : q + s' = e + 1
    · exact .inl ⟨s', q, a1, a2, z, a5⟩
    · exact .inr ⟨s', q, a1, a2, by omega, a5⟩
theorem bg_body3 {w : List Nat} {S : Sto} {n0 e : Nat} {f : Nat → Nat} {x1 y5 y6 y7 y8 : Option D} (he : e + 1 ≤ w.length) :
    exSs Φ Φf G fuel n0 lBg3 [some (.str w), x1, some (.int (e + 1 : Nat)), some (hD w), some (.loc S.length), y5, y6, y7, y8] (S ++ [.lst (fL w.length f)]) =
      .next [some (.str w), x1, some (.int (e + 1 : Nat)), some (hD w), some (.loc S.length), y5, y6, y7, y8] (S ++ [.lst (fL w.length (upF f (e + 1) (max (f (e + 1)) (f e))))]) := by
  obtain ⟨M, hM⟩ : ∃ M, M = max (f (e + 1)) (f e) := ⟨_, rfl⟩
  have i1 : idxD (.lst (fL w.length f)) (.int ((e : Int) + 1)) = some (.int (f (e + 1) : Nat)) := idx_nat (fL_get he) (by omega)
  have i2 : idxD (.lst (fL w.length f)) (.int (e : Int)) = some (.int (f e : Nat)) := idx_nat (fL_get (by omega)) rfl
  have i4 := ix_of (n := (fL w.length f).length) (m := e + 1) (i := (e : Int) + 1) (by omega) (by rw [fL_len]; omega)
  have m2 : maxD [.int ((f (e + 1) : Nat) : Int), .int ((f e : Nat) : Int)] = some (.int (M : Int)) := by
    rw [max_two, max_nat, hM]
  have e3 : (e : Int) + 1 - 1 = e := by omega
  rw [← hM]
  simp [lBg3, i1, i2, i4, m2, fL_set, e3]
def BgOk (F : Fsem) : Prop := ∀ (w : List Nat) (S : Sto), Wd w → w.length ≤ 400 → ∃ f : Nat → Nat, (∀ e, e ≤ w.length → Mx (fun p => Vb w p e) (f e)) ∧ F [.str w] S = .ok (.lst (fL w.length f)) S
theorem bgOk {Fh : Fsem} (eh : Φ "heights_of" = some Fh) (hh : HtOk Fh) : BgOk (fsem Φ Φf G fuel 1 9 bBegins) := by
  intro w S hw h4
  have hz : szL = 16777216 := rfl
  have hsz := lt_sz h4
  have hle : w.length ≤ szL := by omega
  have k1 := loop0 (body := exSs Φ Φf G fuel S.length lBg1) (tg := .one 1) (items := rngL 2 (w.length - 2))
    (fun i Γ S' => ∃ f x1 x2 x5 x6 x7 x8, FInv w (2 + i) 0 f ∧ Γ = [some (.str w), x1, x2, some (hD w), some (.loc S.length), x5, x6, x7, x8] ∧ S' = S ++ [.lst (fL w.length f)])
    (fun r => ∃ f x1 x2 x5 x6 x7 x8, FInv w (2 + (w.length - 2)) 0 f ∧ r = .next [some (.str w), x1, x2, some (hD w), some (.loc S.length), x5, x6, x7, x8] (S ++ [.lst (fL w.length f)]))
    (Γ := [some (.str w), none, none, some (hD w), some (.loc S.length), none, none, none, none]) (S := S ++ [.lst (fL w.length fun _ => 0)])
    ⟨fun _ => 0, _, _, _, _, _, _, (fun e he => ⟨.inl rfl, fun p ⟨s', q, a1, a2, a3, a4, a5⟩ => by omega⟩), rfl, rfl⟩ (fun i x Γ S' hi hI => ?_) (fun Γ S' ⟨f, x1, x2, x5, x6, x7, x8, q1, q2, q3⟩ => ⟨f, x1, x2, x5, x6, x7, x8, by rw [rng_len] at q1; exact q1, by rw [q2, q3]⟩)
  · obtain ⟨f, x1, x2, x5, x6, x7, x8, q1, q2⟩ := k1
    have q1 := q1.all
    have k2 := loop0 (body := exSs Φ Φf G fuel S.length lBg3) (tg := .one 2) (items := rngL 1 w.length)
      (fun i Γ S' => ∃ f x2, (∀ e, e ≤ w.length → (e ≤ i → Mx (fun p => Vb w p e) (f e)) ∧ (i < e → Mx (fun p => Vq w p e) (f e))) ∧ Γ = [some (.str w), x1, x2, some (hD w), some (.loc S.length), x5, x6, x7, x8] ∧ S' = S ++ [.lst (fL w.length f)])
      (fun r => ∃ f x2, (∀ e, e ≤ w.length → Mx (fun p => Vb w p e) (f e)) ∧ r = .next [some (.str w), x1, x2, some (hD w), some (.loc S.length), x5, x6, x7, x8] (S ++ [.lst (fL w.length f)]))
      (Γ := [some (.str w), x1, x2, some (hD w), some (.loc S.length), x5, x6, x7, x8]) (S := S ++ [.lst (fL w.length f)])
      ⟨f, x2, (fun e he => ⟨fun z => by obtain rfl : e = 0 := by omega
                                        exact (q1 0 he).iff fun p => vb_zero, fun _ => q1 e he⟩), rfl, rfl⟩ (fun i x Γ S' hi hI => ?_) (fun Γ S' ⟨f, x2, q1, q2, q3⟩ => ⟨f, x2, fun e he => (q1 e he).1 (by rw [rng_len]; exact he), by rw [q2, q3]⟩)
    · obtain ⟨f2, x2', q3, q4⟩ := k2
      refine ⟨f2, q3, ?_⟩
      have hh := hh w S hsz
      have hh : Fh [.str w] S = .ok (hD w) S := hh
      have i1 : in62 ((w.length : Int) + 1) = true := in62_of (by omega) (by omega)
      have i2 : ((w.length : Int) + 1).toNat = w.length + 1 := by omega
      have i3 : w.length + 1 ≤ szL := by omega
      have i3' : w.length < szL := by omega
      have hrep : (List.replicate (w.length + 1) [D.int 0]).flatten = fL w.length fun _ => 0 := by
        rw [List.flatten_replicate_singleton]
        unfold fL
        rw [List.map_const', List.length_range]; rfl
      have j1 := it_rng2 (a := 2) (b := (w.length : Int)) (m := w.length - 2) rfl (in62_of (by omega) (by omega)) (by omega)
      have j2 := it_rng2 (a := 1) (b := (w.length : Int) + 1) (m := w.length) rfl i1 (by omega)
      have h1s : 1 ≤ szL := by omega
      have hrep2 : List.replicate (w.length + 1) (D.int 0) = fL w.length fun _ => 0 := by
        unfold fL
        rw [List.map_const', List.length_range]; rfl
      simp [bBegins, eh, hh, lenS hle, i1, i2, i3, i3', h1s, hrep, hrep2, j1, q2, fL_len, j2, q4]
    · obtain ⟨f, y2, q3, rfl, rfl⟩ := hI
      obtain ⟨hi1, hi2⟩ := rngAt hi
      subst hi2
      have e : D.int (1 + (i : Int)) = D.int ((i + 1 : Nat) : Int) := by congr 1; omega
      rw [e]
      refine ⟨_, rfl, .inl ⟨_, _, bg_body3 (by omega), _, _, fun e he => ⟨fun z => ?_, fun z => ?_⟩, rfl, rfl⟩⟩
      · unfold upF
        by_cases c : e = i + 1
        · subst c
          rw [if_pos rfl]
          exact (((q3 (i + 1) he).2 (by omega)).or ((q3 i (by omega)).1 (by omega))).iff fun p => vb_succ
        · rw [if_neg c]
          exact (q3 e he).1 (by omega)
      · unfold upF
        rw [if_neg (by omega)]
        exact (q3 e he).2 (by omega)
  · obtain ⟨f, x1, x2, x5, x6, x7, x8, q1, rfl, rfl⟩ := hI
    obtain ⟨hi1, hi2⟩ := rngAt hi
    subst hi2
    have e : D.int (2 + (i : Int)) = D.int ((2 + i : Nat) : Int) := by congr 1
    rw [e]
    obtain ⟨f', z2, z5, z6, z7, z8, q3, q4⟩ := bg_inner (Φ := Φ) (Φf := Φf) (G := G) (fuel := fuel) (S := S) (y2 := x2) (y5 := x5) (y6 := x6) (y7 := x7) (y8 := x8) h4 (by omega) (by omega) q1
    exact ⟨_, rfl, .inl ⟨_, _, q4, f', _, _, _, _, _, _, q3, rfl, rfl⟩⟩
end
end EK

set_option Elab.async false
set_option linter.all false
set_option maxRecDepth 100000
set_option maxHeartbeats 4000000
namespace EK
open PySem L2 PySem.Spec PyProof.Rows
def pr (p : Int × Int) : D := .tup [.int p.1, .int p.2]
def lt2 (p q : Int × Int) : Prop := p.1 < q.1 ∨ (p.1 = q.1 ∧ p.2 < q.2)
instance (p q : Int × Int) : Decidable (lt2 p q) := by unfold lt2; infer_instance
theorem dlt_pr (p q : Int × Int) : dlt (pr p) (pr q) = decide (lt2 p q) := by
  obtain ⟨a, b⟩ := p
  obtain ⟨c, d⟩ := q
  show PyProof.Rows.lexLt PyProof.Rows.itemOrd [.inl 1, .inl a, .inl 1, .inl b, .inl 0] [.inl 1, .inl c, .inl 1, .inl d, .inl 0] = _
  rw [PyProof.Rows.lex_self]
  by_cases h : a = c
  · subst h
    rw [PyProof.Rows.lex_self, PyProof.Rows.lex_self]
    by_cases h2 : b = d
    · subst h2
      rw [PyProof.Rows.lex_self, PyProof.Rows.lex_self]
      rw [eq_comm, decide_eq_false (by rintro (z | ⟨_, z⟩) <;> dsimp only at z <;> omega)]
      rfl
    · rw [PyProof.Rows.lex_diff (fun z => h2 (Sum.inl.inj z))]
      show decide (b < d) = _
      rw [Bool.eq_iff_iff, decide_eq_true_iff, decide_eq_true_iff]
      unfold lt2; dsimp only; omega
  · rw [PyProof.Rows.lex_diff (fun z => h (Sum.inl.inj z))]
    show decide (a < c) = _
    rw [Bool.eq_iff_iff, decide_eq_true_iff, decide_eq_true_iff]
    unfold lt2; dsimp only; omega
def best2 (ps : List (Int × Int)) (p : Int × Int) : Int × Int := ps.foldl (fun a y => if lt2 a y then y else a) p
theorem best_fold : ∀ (ps : List (Int × Int)) (p : Int × Int), (ps.map pr).foldl (fun a y => if dlt a y then y else a) (pr p) = pr (best2 ps p)
  | [], p => rfl
  | q :: ps, p => by
    show (ps.map pr).foldl (fun a y => if dlt a y then y else a) (if dlt (pr p) (pr q) then pr q else pr p) = pr (best2 ps (if lt2 p q then q else p))
    rw [dlt_pr]
    by_cases h : lt2 p q
    · rw [decide_eq_true h, if_pos rfl, if_pos h]; exact best_fold ps q
    · rw [decide_eq_false h, if_neg (by decide), if_neg h]; exact best_fold ps p
theorem best_ok : ∀ (ps : List (Int × Int)) (p : Int × Int), (best2 ps p = p ∨ best2 ps p ∈ ps) ∧ ¬ lt2 (best2 ps p) p ∧ ∀ y ∈ ps, ¬ lt2 (best2 ps p) y
  | [], p => ⟨.inl rfl, by show ¬ lt2 p p; unfold lt2; omega, fun y hy => by cases hy⟩
  | q :: ps, p => by
    have ih := best_ok ps (if lt2 p q then q else p)
    show (best2 ps (if lt2 p q then q else p) = p ∨ best2 ps (if lt2 p q then q else p) ∈ q :: ps) ∧ ¬ lt2 (best2 ps (if lt2 p q then q else p)) p ∧ ∀ y ∈ q :: ps, ¬ lt2 (best2 ps (if lt2 p q then q else p)) y
    by_cases h : lt2 p q
    · rw [if_pos h] at ih ⊢
      obtain ⟨i1, i2, i3⟩ := ih
      refine ⟨.inr ?_, ?_, fun y hy => ?_⟩
      · rcases i1 with i1 | i1
        · rw [i1]; exact List.mem_cons_self ..
        · exact List.mem_cons_of_mem _ i1
      · unfold lt2 at *; omega
      · rcases List.mem_cons.mp hy with rfl | hy
        · exact i2
        · exact i3 y hy
    · rw [if_neg h] at ih ⊢
      obtain ⟨i1, i2, i3⟩ := ih
      refine ⟨?_, i2, fun y hy => ?_⟩
      · rcases i1 with i1 | i1
        · exact .inl i1
        · exact .inr (List.mem_cons_of_mem _ i1)
      · rcases List.mem_cons.mp hy with rfl | hy
        · unfold lt2 at *; omega
        · exact i3 y hy
def pp (p : Int × Int) : PyData := .tuple [.int p.1, .int p.2]
theorem pyA_pr : ∀ ps : List (Int × Int), pyA (ps.map pr) = some (ps.map pp)
  | [] => rfl
  | p :: ps => by
    rw [List.map_cons, pyA, pyA_pr ps]; rfl
theorem lay_pp : ∀ ps : List (Int × Int), PyData.canLayAll0 (ps.map pp) = true
  | [] => rfl
  | p :: ps => by
    rw [List.map_cons, PyData.canLayAll0, lay_pp ps]; rfl
theorem dep_pp : ∀ ps : List (Int × Int), PyData.depthAll (ps.map pp) ≤ 1
  | [] => Nat.zero_le _
  | p :: ps => by
    rw [List.map_cons, PyData.depthAll]
    have := dep_pp ps
    have e : PyData.depth (pp p) = 1 := rfl
    rw [e]; omega
theorem alike_pp (ps : List (Int × Int)) : alikeB (ps.map pp) = true := by
  unfold alikeB
  rw [List.all_eq_true]
  intro x hx
  obtain ⟨p, _, rfl⟩ := List.mem_map.mp hx
  rw [Bool.and_eq_true]
  refine ⟨rfl, ?_⟩
  rw [List.all_eq_true]
  intro y hy
  obtain ⟨q, _, rfl⟩ := List.mem_map.mp hy
  rfl
theorem max_pairs (p : Int × Int) (ps : List (Int × Int)) : maxD [.lst ((p :: ps).map pr)] = some (pr (best2 ps p)) := by
  show bestD dlt (pr p :: ps.map pr) = _
  show (match pyA (pr p :: ps.map pr) with | some qs => if alikeB qs = true ∧ PyData.depthAll qs ≤ 60 ∧ PyData.canLayAll0 qs = true then some ((ps.map pr).foldl (fun a y => if dlt a y then y else a) (pr p)) else none | none => none) = _
  have e := pyA_pr (p :: ps)
  rw [List.map_cons] at e
  rw [e]
  dsimp only
  rw [if_pos ⟨alike_pp (p :: ps), by have := dep_pp (p :: ps); omega, lay_pp (p :: ps)⟩, best_fold]
theorem enum_range (f : Nat → D) : ∀ (n k : Nat), enumFrom k ((List.range n).map fun i => f (i + k)) = (List.range n).map fun i => D.tup [.int ((i + k : Nat) : Int), f (i + k)]
  | 0, _ => rfl
  | n + 1, k => by
    rw [List.range_succ_eq_map, List.map_cons, List.map_cons, List.map_map, List.map_map]
    show D.tup [.int (k : Int), f (0 + k)] :: enumFrom (k + 1) _ = _
    have ih := enum_range f n (k + 1)
    have e : (List.range n).map ((fun i => f (i + k)) ∘ Nat.succ) = (List.range n).map fun i => f (i + (k + 1)) := by
      apply List.map_congr_left; intro i _; show f (i + 1 + k) = _; congr 1; omega
    rw [e, ih]
    congr 1
    · rw [Nat.zero_add]
    · apply List.map_congr_left
      intro i _
      show _ = D.tup [.int ((i + 1 + k : Nat) : Int), f (i + 1 + k)]
      rw [show i + (k + 1) = i + 1 + k by omega]
def eLongE : CE := .tup [.bin .Sub (.var 4) (.var 5), .bin .Sub (.con (.int 0)) (.var 5)]
def bLongE : List CS := [.set (.one 1) (.call "begins_by_end" [.call "need_word" [.var 0]]),
  .set (.many [2, 3]) (.blt .max [.lc eLongE (.many [4, 5]) .enm [.var 1] (.con (.bl true)) [("end", 4), ("first", 5)]]),
  .ret (.sl (.var 0) (.bin .Sub (.con (.int 0)) (.var 3)) (.bin .Sub (.var 2) (.var 3)))]
section
variable {Φ Φf : Str → Option Fsem} {G : Str → Option D} {fuel : Nat}
theorem leOk {Fb Fn : Fsem} (eb : Φ "begins_by_end" = some Fb) (hb : BgOk Fb) (en : Φ "need_word" = some Fn) (hn : NwOk Fn) : LgOk (fsem Φ Φf G fuel 1 6 bLongE) := by
  intro w S hw h4
  have hz : szL = 16777216 := rfl
  obtain ⟨f, hf, e1⟩ := hb w S hw h4
  have e2 := hn w S hw h4
  let P : Nat → Int × Int := fun e => ((e : Int) - (f e : Nat), -((f e : Nat) : Int))
  have hlist : (List.range (w.length + 1)).map P = P 0 :: (List.range w.length).map fun e => P (e + 1) := by
    rw [List.range_succ_eq_map, List.map_cons, List.map_map]; rfl
  obtain ⟨b1, b2, b3⟩ := best_ok ((List.range w.length).map fun e => P (e + 1)) (P 0)
  generalize hB : best2 ((List.range w.length).map fun e => P (e + 1)) (P 0) = B at b1 b2 b3
  have hm := max_pairs (P 0) ((List.range w.length).map fun e => P (e + 1))
  rw [← hlist, hB] at hm
  -- the best end
  obtain ⟨e, he, hPe⟩ : ∃ e, e ≤ w.length ∧ B = P e := by
    rcases b1 with q | q
    · exact ⟨0, by omega, q⟩
    · obtain ⟨i, i1, i2⟩ := List.mem_map.mp q
      exact ⟨i + 1, by have := List.mem_range.mp i1; omega, i2.symm⟩
  have hall : ∀ e', e' ≤ w.length → ¬ lt2 (P e) (P e') := by
    intro e' he'
    rw [← hPe]
    cases e' with
    | zero => exact b2
    | succ i => exact b3 _ (List.mem_map.mpr ⟨i, List.mem_range.mpr (by omega), rfl⟩)
  have hfe : ∀ e, e ≤ w.length → Mx (fun p => Vb w p e) (f e) ∧ f e ≤ e := fun e he => ⟨hf e he, vb_lt (hf e he)⟩
  refine ⟨_, lgst_of hfe he fun e' he' => ?_, ?_⟩
  · have h1 := hall e' he'
    have h2 := (hfe e' he').2
    have h3 := (hfe e he).2
    unfold lt2 at h1
    have a1 : (P e).1 = (e : Int) - (f e : Nat) := rfl
    have a2 : (P e).2 = -((f e : Nat) : Int) := rfl
    have a3 : (P e').1 = (e' : Int) - (f e' : Nat) := rfl
    have a4 : (P e').2 = -((f e' : Nat) : Int) := rfl
    rw [a1, a2, a3, a4] at h1
    omega
  · have hen : enumFrom 0 (fL w.length f) = (List.range (w.length + 1)).map fun i : Nat => D.tup [.int (i : Int), .int (f i : Nat)] := by
      have := enum_range (fun i => D.int (f i : Nat)) (w.length + 1) 0
      simpa [fL] using this
    have e0 : lcLoop (fun _ S => .ok (.bl true) S) (ev Φ G eLongE) (.many [4, 5]) [some (.str w), some (.lst (fL w.length f)), none, none, none, none] ((List.range (w.length + 1)).map fun i : Nat => D.tup [.int (i : Int), .int (f i : Nat)]) [] S = .ok (.lst (((List.range (w.length + 1)).map P).map pr)) S := by
      rw [lc_at (fun i : Nat => D.tup [.int (i : Int), .int (f i : Nat)]) (fun i => pr (P i)) _ _ fun k hk => ⟨_, rfl, rfl, ?_, rfl⟩]
      · rw [List.map_map]; rfl
      · simp [eLongE, szL]
        rfl
    have hB2 : pr B = .tup [.int ((e : Int) - (f e : Nat)), .int (-((f e : Nat) : Int))] := by rw [hPe]; rfl
    rw [hB2] at hm
    have h3 := (hfe e he).2
    have hsl := sl_part (w := w) (i := ((f e : Nat) : Int)) (j := (e : Int) - (f e : Nat) - -((f e : Nat) : Int)) (b := f e) (L := e - f e) (by omega) (by omega) (by omega) (by omega)
    have hle : w.length + 1 ≤ 16777216 := by omega
    have hm2 := hm
    rw [List.map_map] at hm2
    have hsl2 := hsl
    rw [show (e : Int) - (f e : Nat) - -((f e : Nat) : Int) = e by omega] at hsl2
    simp [bLongE, eb, en, e1, e2, hen, szL, hle, e0, hm, hm2, hsl, hsl2]
end
end EK

set_option Elab.async false
set_option linter.all false
set_option maxRecDepth 100000
set_option maxHeartbeats 4000000
namespace EK
open PySem L2 PySem.Spec PyProof.Rows
/-! ### the draws begin -/
def pi (i : Int) : PyData := .int i
theorem pyA_ints : ∀ xs : List Int, pyA (xs.map D.int) = some (xs.map pi)
  | [] => rfl
  | x :: xs => by rw [List.map_cons, pyA, pyA_ints xs]; rfl
theorem lay_ints : ∀ xs : List Int, PyData.canLayAll0 (xs.map pi) = true
  | [] => rfl
  | x :: xs => by rw [List.map_cons, PyData.canLayAll0, lay_ints xs]; rfl
theorem dep_ints : ∀ xs : List Int, PyData.depthAll (xs.map pi) = 0
  | [] => rfl
  | x :: xs => by rw [List.map_cons, PyData.depthAll, dep_ints xs]; rfl
theorem ne_nil {x : Int} {xs : List Int} : cmpD .NotEq (.lst ((x :: xs).map D.int)) (.lst []) = some (.bl true) := by
  have e : eqB (.lst ((x :: xs).map D.int)) (.lst []) = some false := by
    show (match (pyA ((x :: xs).map D.int)).map PyData.list, (pyA []).map PyData.list with
      | some p, some q => if SeqAt.shaped p = true ∧ SeqAt.shaped q = true then some (PyData.eqv p q) else none
      | _, _ => none) = _
    rw [pyA_ints]
    have s1 : SeqAt.shaped (.list ((x :: xs).map pi)) = true := by
      unfold SeqAt.shaped
      rw [Bool.and_eq_true]
      refine ⟨lay_ints (x :: xs), ?_⟩
      rw [decide_eq_true_iff, PyData.depth, dep_ints]; omega
    show (if SeqAt.shaped (.list ((x :: xs).map pi)) = true ∧ SeqAt.shaped (.list []) = true then some (PyData.eqv (.list ((x :: xs).map pi)) (.list [])) else none) = _
    rw [if_pos ⟨s1, rfl⟩]
    rfl
  show (eqB _ _).map _ = _
  rw [e]; rfl
def cBegun : CE := .cmp .GtE (.var 2) (.bin .Pow (.con (.int 10)) (.con (.int 18)))
def eBegun : CE := .var 2
def bBegun : List CS := [.set (.one 1) (.lc eBegun (.one 2) .seq [.var 0] cBegun [("_law_cell", 2)]),
  .retF (.dic [.inr "cells", .inr "left", .inr "spot"] [.bin .Add (.blt .list [.var 0]) (.lst [.blt .len [.var 0]]), .ite (.cmp .NotEq (.var 1) (.lst [])) (.idx (.var 1) (.con (.int 0))) (.con (.int 0)), .con (.int 0)])]
section
variable {Φ Φf : Str → Option Fsem} {G : Str → Option D} {fuel : Nat}
theorem begun_ok (ns : List Int) (S : Sto) (hn : ns.length ≤ 1000) : ∃ l, fsemF Φ Φf G fuel 1 3 bBegun [.frz (ns.map .int)] S = .ok (.dic (dr (ns ++ [(ns.length : Int)]) l 0)) S := by
  have hz : szL = 16777216 := rfl
  let q : Int → Bool := fun i => !decide (i < 1000000000000000000)
  have e0 : lcLoop (ev Φ G cBegun) (ev Φ G eBegun) (.one 2) [some (.frz (ns.map .int)), none, none] (ns.map .int) [] S = .ok (.lst ((ns.filter q).map .int)) S := by
    rw [lc_filter (p := fun d => match d with | .int i => q i | _ => false) (f := fun d => d) fun x hx => ?_]
    · rw [List.nil_append, List.map_id', List.filter_map]; rfl
    · obtain ⟨i, _, rfl⟩ := List.mem_map.mp hx
      have hp : powD (.int 10) (.int 18) = some (.int 1000000000000000000) := rfl
      exact ⟨_, rfl, by simp [cBegun, hp, q], fun _ => ⟨by simp [eBegun], rfl⟩⟩
  have hlist : listD [.frz (ns.map D.int)] = some (.lst (ns.map D.int)) := rfl
  have hadd : addD (.lst (ns.map D.int)) (.lst [.int (ns.length : Int)]) = some (.lst ((ns ++ [(ns.length : Int)]).map D.int)) := by
    show (if (ns.map D.int).length + 1 ≤ szL then some (D.lst (ns.map D.int ++ [.int (ns.length : Int)])) else none) = _
    rw [if_pos (by rw [List.length_map]; omega), List.map_append]; rfl
  have hle : ns.length ≤ szL := by omega
  have h1s : 1 ≤ szL := by omega
  have h3s : 3 ≤ 15 := by omega
  have nd : ([.inr "cells", .inr "left", .inr "spot"] : List Key).Nodup := by decide
  cases hg : ns.filter q with
  | nil =>
    refine ⟨0, ?_⟩
    rw [hg] at e0
    have c : cmpD .NotEq (.lst []) (.lst []) = some (.bl false) := rfl
    have nab1 : ¬ (Str.ofString "cells" = Str.ofString "left") := by decide
    have nab2 : ¬ (Str.ofString "cells" = Str.ofString "spot") := by decide
    have nab3 : ¬ (Str.ofString "left" = Str.ofString "spot") := by decide
    simp only [List.map_nil] at e0
    simp [bBegun, e0, hle, h1s, hlist, c, nab1, nab2, nab3, dr]
    simp at hadd
    simp [hadd]
  | cons g gs =>
    refine ⟨g, ?_⟩
    rw [hg] at e0
    have c := ne_nil (x := g) (xs := gs)
    have i0 : idxD (.lst ((g :: gs).map D.int)) (.int 0) = some (.int g) := idx_nat (j := 0) rfl rfl
    have nab1 : ¬ (Str.ofString "cells" = Str.ofString "left") := by decide
    have nab2 : ¬ (Str.ofString "cells" = Str.ofString "spot") := by decide
    have nab3 : ¬ (Str.ofString "left" = Str.ofString "spot") := by decide
    simp only [List.map_cons] at e0 c i0
    simp [bBegun, e0, hle, h1s, hlist, c, i0, nab1, nab2, nab3, dr]
    simp at hadd
    simp [hadd]
end
end EK

set_option Elab.async false
set_option linter.all false
set_option maxRecDepth 100000
set_option maxHeartbeats 4000000
namespace EK
open PySem L2 PySem.Spec PyProof.Rows
/-! ### words of the law's own, decided -/
def prefs : Nat → List Nat → List Nat
  | a, [] => [a]
  | a, c :: w => a :: prefs (a + if c = 98 then 1 else 0) w
def bigL (l : List Nat) : Nat := l.foldl max 0
def smallL (l : List Nat) : Nat := l.foldl min (bigL l)
def unevB (P : List Nat) (s : Nat) : Bool := let l := List.zipWith (· - ·) (P.drop s) P; Nat.blt (smallL l + 1) (bigL l)
def firstB (P : List Nat) : Nat → Nat → Option Nat
  | 0, _ => none
  | k + 1, s => if unevB P s = true then some s else firstB P k (s + 1)
theorem prefs_eq : ∀ (w : List Nat) (a : Nat), prefs a w = (List.range (w.length + 1)).map fun i => a + (w.take i).count 98
  | [], a => by simp [prefs]
  | c :: w, a => by
    rw [prefs, prefs_eq w, List.length_cons, List.range_succ_eq_map (n := w.length + 1), List.map_cons, List.map_map]
    congr 1
    apply List.map_congr_left
    intro i _
    show _ = a + ((c :: w).take (i + 1)).count 98
    rw [List.take_succ_cons, List.count_cons]
    by_cases h : c = 98 <;> simp [h] <;> omega
theorem fold_max : ∀ (l : List Nat) (a : Nat), (∀ x ∈ l, x ≤ l.foldl max a) ∧ a ≤ l.foldl max a ∧ (l.foldl max a = a ∨ l.foldl max a ∈ l)
  | [], a => ⟨(fun x h => by cases h), Nat.le_refl _, .inl rfl⟩
  | y :: l, a => by
    obtain ⟨h1, h2, h3⟩ := fold_max l (max a y)
    rw [List.foldl_cons]
    refine ⟨fun x hx => ?_, by omega, ?_⟩
    · rcases List.mem_cons.mp hx with rfl | hx
      · omega
      · exact h1 x hx
    · rcases h3 with h3 | h3
      · rw [h3]
        by_cases c : a ≤ y
        · rw [Nat.max_eq_right c]; exact .inr (List.mem_cons_self ..)
        · rw [Nat.max_eq_left (by omega)]; exact .inl rfl
      · exact .inr (List.mem_cons_of_mem _ h3)
theorem fold_min : ∀ (l : List Nat) (a : Nat), (∀ x ∈ l, l.foldl min a ≤ x) ∧ l.foldl min a ≤ a ∧ (l.foldl min a = a ∨ l.foldl min a ∈ l)
  | [], a => ⟨(fun x h => by cases h), Nat.le_refl _, .inl rfl⟩
  | y :: l, a => by
    obtain ⟨h1, h2, h3⟩ := fold_min l (min a y)
    rw [List.foldl_cons]
    refine ⟨fun x hx => ?_, by omega, ?_⟩
    · rcases List.mem_cons.mp hx with rfl | hx
      · omega
      · exact h1 x hx
    · rcases h3 with h3 | h3
      · rw [h3]
        by_cases c : a ≤ y
        · rw [Nat.min_eq_left c]; exact .inl rfl
        · rw [Nat.min_eq_right (by omega)]; exact .inr (List.mem_cons_self ..)
      · exact .inr (List.mem_cons_of_mem _ h3)

theorem zip_range (f : Nat → Nat) (n s : Nat) : List.zipWith (· - ·) (((List.range n).map f).drop s) ((List.range n).map f) = (List.range (n - s)).map fun p => f (p + s) - f p := by
  rw [drop_range]
  apply List.ext_getElem?
  intro i
  rw [List.getElem?_zipWith]
  simp only [List.getElem?_map]
  by_cases hi : i < n - s
  · rw [List.getElem?_range hi, List.getElem?_range (by omega)]; rfl
  · rw [List.getElem?_eq_none (l := List.range (n - s)) (by simpa using hi)]
    rfl
theorem count_mono (w : List Nat) {i j : Nat} (h : i ≤ j) : (w.take i).count 98 ≤ (w.take j).count 98 := by
  have : w.take i = (w.take j).take i := by rw [List.take_take, Nat.min_eq_left h]
  rw [this]
  exact (List.take_sublist _ _).count_le 98
theorem unevB_iff {w : List Nat} {s : Nat} (hs : s ≤ w.length) : unevB (prefs 0 w) s = true ↔ Unev w s := by
  unfold unevB
  rw [prefs_eq, zip_range]
  dsimp only
  rw [blt_iff]
  obtain ⟨c, hc⟩ : ∃ c : Nat → Nat, c = fun i => 0 + (w.take i).count 98 := ⟨_, rfl⟩
  have hcw : ∀ p, ((c (p + s) - c p : Nat) : Int) = win w s p := by
    intro p
    have := count_mono w (show p ≤ p + s by omega)
    rw [hc]
    unfold win cnt
    dsimp only
    omega
  have ec : (List.range (w.length + 1 - s)).map (fun p => 0 + (w.take (p + s)).count 98 - (0 + (w.take p).count 98)) = (List.range (w.length + 1 - s)).map (fun p => c (p + s) - c p) := by rw [hc]
  rw [ec]
  generalize hl : (List.range (w.length + 1 - s)).map (fun p => c (p + s) - c p) = l
  have hmem : ∀ x, x ∈ l ↔ ∃ p, p + s ≤ w.length ∧ x = c (p + s) - c p := by
    intro x
    rw [← hl, List.mem_map]
    constructor
    · rintro ⟨p, h1, h2⟩
      exact ⟨p, by have := List.mem_range.mp h1; omega, h2.symm⟩
    · rintro ⟨p, h1, h2⟩
      exact ⟨p, List.mem_range.mpr (by omega), h2.symm⟩
  obtain ⟨a1, _, a3⟩ := fold_max l 0
  obtain ⟨b1, b2, b3⟩ := fold_min l (bigL l)
  have hbig : bigL l = l.foldl max 0 := rfl
  have hsm : smallL l = l.foldl min (bigL l) := rfl
  constructor
  · intro h
    have m1 : bigL l ∈ l := by
      rcases a3 with q | q
      · rw [← hbig] at q; omega
      · exact q
    have m2 : smallL l ∈ l := by
      rcases b3 with q | q
      · rw [hsm, q]; exact m1
      · exact q
    obtain ⟨p, p1, p2⟩ := (hmem _).mp m1
    obtain ⟨q, q1, q2⟩ := (hmem _).mp m2
    refine ⟨p, q, p1, q1, ?_⟩
    rw [← hcw, ← hcw, ← p2, ← q2]
    omega
  · rintro ⟨p, q, h1, h2, h3⟩
    have m1 := a1 _ ((hmem _).mpr ⟨p, h1, rfl⟩)
    have m2 := b1 _ ((hmem _).mpr ⟨q, h2, rfl⟩)
    rw [← hcw, ← hcw] at h3
    rw [← hbig] at m1
    rw [← hsm] at m2
    omega
theorem firstB_ok {w : List Nat} : ∀ (k s : Nat), 1 ≤ s → s + k = w.length → (∀ t, 1 ≤ t → t < s → ¬ Unev w t) → (∃ t, firstB (prefs 0 w) k s = some t ∧ FirstU w t) ∨ (firstB (prefs 0 w) k s = none ∧ NoU w)
  | 0, s, h1, h2, h => .inr ⟨rfl, fun t t1 t2 => h t t1 (by omega)⟩
  | k + 1, s, h1, h2, h => by
    unfold firstB
    by_cases c : unevB (prefs 0 w) s = true
    · rw [if_pos c]
      exact .inl ⟨s, rfl, h1, by omega, (unevB_iff (by omega)).mp c, h⟩
    · rw [if_neg c]
      refine firstB_ok k (s + 1) (by omega) (by omega) fun t t1 t2 => ?_
      by_cases e : t = s
      · subst e; exact fun z => c ((unevB_iff (by omega)).mpr z)
      · exact h t t1 (by omega)
end EK

set_option Elab.async false
set_option linter.all false
set_option maxRecDepth 100000
set_option maxHeartbeats 4000000
namespace EK
open PySem L2 PySem.Spec PyProof.Rows
theorem line_step {p b st : Int} (h0 : 0 ≤ p) (h1 : p ≤ b) (hb : 0 < b) (k : Nat) : (p * ((k + 1 : Nat) : Int) + st) / b - (p * (k : Int) + st) / b = if (p * (k : Int) + st) / b < (p * ((k + 1 : Nat) : Int) + st) / b then 1 else 0 := by
  have e : p * ((k + 1 : Nat) : Int) + st = (p * (k : Int) + st) + p := by
    rw [Int.natCast_add, Int.mul_add]; simp; omega
  rw [e]
  generalize p * (k : Int) + st = x
  have h2 : x / b ≤ (x + p) / b := Int.ediv_le_ediv hb (by omega)
  have h3 : (x + p) / b ≤ x / b + 1 := by
    have : (x + p) / b ≤ (x + b) / b := Int.ediv_le_ediv hb (by omega)
    rw [Int.add_ediv_of_dvd_right (Int.dvd_refl b), Int.ediv_self (by omega)] at this
    exact this
  split <;> omega
theorem line_cnt {p b st : Int} (h0 : 0 ≤ p) (h1 : p ≤ b) (hb : 0 < b) (n : Nat) : ∀ i, i ≤ n → cnt (lineW p b st n) i = (p * (i : Int) + st) / b - st / b
  | 0, _ => by rw [cnt_zero]; simp
  | i + 1, hi => by
    have hg : (lineW p b st n)[i]? = some (if (p * (i : Int) + st) / b < (p * ((i + 1 : Nat) : Int) + st) / b then 98 else 97) := by
      unfold lineW
      rw [List.getElem?_map, List.getElem?_range (by omega)]; rfl
    rw [cnt_succ hg, line_cnt h0 h1 hb n i (by omega)]
    have := line_step (st := st) h0 h1 hb i
    split at this <;> rename_i c
    · rw [if_pos c, if_pos rfl]; omega
    · rw [if_neg c, if_neg (by decide)]; omega
theorem line_even {p b st : Int} (h0 : 0 ≤ p) (h1 : p ≤ b) (hb : 0 < b) (n : Nat) : NoU (lineW p b st n) := by
  intro s s1 s2 ⟨x, y, hx, hy, h⟩
  rw [lineW_len] at hx hy
  unfold win at h
  rw [line_cnt h0 h1 hb n _ hx, line_cnt h0 h1 hb n _ (by omega), line_cnt h0 h1 hb n _ hy, line_cnt h0 h1 hb n _ (by omega)] at h
  have e : ∀ z : Nat, p * ((z + s : Nat) : Int) + st = (p * (z : Int) + st) + p * (s : Int) := fun z => by
    rw [Int.natCast_add, Int.mul_add]; omega
  rw [e, e] at h
  generalize p * (s : Int) = m at h
  generalize p * (x : Int) + st = u at h
  generalize p * (y : Int) + st = v at h
  have k1 := Int.emod_nonneg u (by omega : b ≠ 0)
  have k2 := Int.emod_lt_of_pos u hb
  have k3 := Int.emod_nonneg v (by omega : b ≠ 0)
  have k4 := Int.emod_lt_of_pos v hb
  have k5 := Int.emod_nonneg m (by omega : b ≠ 0)
  have k6 := Int.emod_lt_of_pos m hb
  have d1 : (u + m) / b ≤ u / b + m / b + 1 := by
    have : u + m < b * (u / b + m / b + 1 + 1) := by
      have e1 := Int.mul_ediv_add_emod u b
      have e2 := Int.mul_ediv_add_emod m b
      rw [Int.mul_add, Int.mul_add, Int.mul_add]; omega
    have := Int.ediv_lt_of_lt_mul hb (by rw [Int.mul_comm] at this; exact this)
    omega
  have d2 : v / b + m / b ≤ (v + m) / b := by
    apply Int.le_ediv_of_mul_le hb
    have e1 := Int.mul_ediv_add_emod v b
    have e2 := Int.mul_ediv_add_emod m b
    rw [Int.add_mul, Int.mul_comm _ b, Int.mul_comm _ b]; omega
  omega
end EK

set_option Elab.async false
set_option linter.all false
set_option maxRecDepth 100000
set_option maxHeartbeats 4000000
namespace EK
open PySem L2 PySem.Spec PyProof.Rows
/-! ### answers at given words -/
def fB (w : List Nat) : Option Nat := firstB (prefs 0 w) (w.length - 1) 1
theorem fB_some {w : List Nat} {t : Nat} (h : fB w = some t) : FirstU w t := by
  have hl : 1 + (w.length - 1) = w.length := by
    cases w with
    | nil => cases h
    | cons c w => rw [List.length_cons]; omega
  rcases firstB_ok (w := w) (w.length - 1) 1 (Nat.le_refl _) hl (fun t t1 t2 => by omega) with ⟨t', e, q⟩ | ⟨e, q⟩
  · have : some t' = some t := e.symm.trans h
    cases this; exact q
  · have : none = some t := e.symm.trans h
    cases this
theorem fB_none {w : List Nat} (h : fB w = none) : NoU w := by
  by_cases hw : w = []
  · subst hw; exact noU_nil
  · have hl : 1 + (w.length - 1) = w.length := by
      have := List.length_pos_iff.mpr hw; omega
    rcases firstB_ok (w := w) (w.length - 1) 1 (Nat.le_refl _) hl (fun t t1 t2 => by omega) with ⟨t', e, q⟩ | ⟨e, q⟩
    · have : some t' = none := e.symm.trans h
      cases this
    · exact q
theorem ev_yes {F : Fsem} (hF : EvOk F) {w : List Nat} (hw : Wd w) (hl : w.length ≤ 400) (h : NoU w) (S : Sto) : F [.str w] S = .ok (.bl true) S :=
  ((hF w S hw hl).resolve_right fun ⟨⟨_, z⟩, _⟩ => z.no h).2
theorem ev_no {F : Fsem} (hF : EvOk F) {w : List Nat} (hw : Wd w) (hl : w.length ≤ 400) (h : ¬ NoU w) (S : Sto) : F [.str w] S = .ok (.bl false) S :=
  ((hF w S hw hl).resolve_left fun ⟨z, _⟩ => h z).2
theorem us_is {F : Fsem} (hF : UsOk F) {w : List Nat} (hw : Wd w) (hl : w.length ≤ 400) {t : Nat} (h : FirstU w t) (S : Sto) : F [.str w] S = .ok (.int t) S := by
  obtain ⟨s, q1, q2⟩ := (hF w S hw hl).resolve_left fun ⟨z, _⟩ => h.no z
  rw [q1.uniq h] at q2
  exact q2
theorem lg_is {F : Fsem} (hF : LgOk F) {w v : List Nat} (hw : Wd w) (hl : w.length ≤ 400) (h : Lgst w v) (S : Sto) : F [.str w] S = .ok (.str v) S := by
  obtain ⟨v', q1, q2⟩ := hF w S hw hl
  rw [q1.uniq h] at q2
  exact q2
def wdB (w : List Nat) : Bool := w.all fun c => c == 97 || c == 98
theorem wdB_ok {w : List Nat} (h : wdB w = true) : Wd w := fun c hc => by
  have := List.all_eq_true.mp h c hc
  simpa using this
/-- a shorter part of an even part is even -/
theorem noU_less {w : List Nat} {b L L' : Nat} (h : b + L ≤ w.length) (hl : L' ≤ L) (n : NoU (Part w b L)) : NoU (Part w b L') := by
  have e1 : Part w b L = Part w b (b + L - b) := by rw [show b + L - b = L by omega]
  have e2 : Part w b L' = Part w b (b + L' - b) := by rw [show b + L' - b = L' by omega]
  rw [e1, noU_part (by omega) h] at n
  rw [e2, noU_part (by omega) (by omega)]
  intro p hp
  refine n p ?_
  obtain ⟨s, q, a1, a2, a3, a4⟩ := hp
  exact ⟨s, q, a1, a2, by omega, a4⟩
def unB (w : List Nat) : Bool := (fB w).isSome
theorem unB_ok {w : List Nat} (h : unB w = true) : ¬ NoU w := by
  unfold unB at h
  cases e : fB w with
  | none => rw [e] at h; cases h
  | some t => exact fun z => (fB_some e).no z
def lgB (w : List Nat) (b L : Nat) : Bool := decide (b + L ≤ w.length) && (fB (Part w b L)).isNone && ((List.range (w.length - L)).all fun c => unB (Part w c (L + 1))) && (List.range b).all fun c => unB (Part w c L)
theorem lgB_ok {w : List Nat} {b L : Nat} (h : lgB w b L = true) : Lgst w (Part w b L) := by
  unfold lgB at h
  simp only [Bool.and_eq_true, decide_eq_true_iff, List.all_eq_true, Option.isNone_iff_eq_none] at h
  obtain ⟨⟨⟨h1, h2⟩, h3⟩, h4⟩ := h
  refine ⟨b, L, h1, rfl, fB_none h2, fun b' L' g1 g2 => ?_⟩
  by_cases c : L' < L
  · exact .inl c
  · right
    have e : L' = L := by
      refine Nat.le_antisymm (Nat.le_of_not_lt fun z => ?_) (by omega)
      exact unB_ok (h3 b' (List.mem_range.mpr (by omega))) (noU_less g1 (by omega) g2)
    refine ⟨e, Nat.le_of_not_lt fun z => ?_⟩
    subst e
    exact unB_ok (h4 b' (List.mem_range.mpr z)) g2
theorem lgst_self {w : List Nat} (h : NoU w) : Lgst w w := by
  refine ⟨0, w.length, by omega, by unfold Part; simp, h, fun b' L' g1 g2 => ?_⟩
  omega
end EK

set_option Elab.async false
set_option linter.all false
set_option maxRecDepth 100000
set_option maxHeartbeats 4000000
namespace EK
open PySem L2 PySem.Spec PyProof.Rows
/-! ### replacements -/
def imgW (u v w : List Nat) : List Nat := (w.map fun c => if c = 97 then u else v).flatten
abbrev pd (u v : List Nat) : D := .tup [.str u, .str v]
theorem imgW_nil {u v : List Nat} : imgW u v [] = [] := rfl
theorem imgW_cons {u v w : List Nat} {c : Nat} : imgW u v (c :: w) = (if c = 97 then u else v) ++ imgW u v w := by simp [imgW]
theorem imgW_app {u v w z : List Nat} : imgW u v (w ++ z) = imgW u v w ++ imgW u v z := by simp [imgW]
theorem imgW_len {u v : List Nat} {m : Nat} (hu : u.length ≤ m) (hv : v.length ≤ m) : ∀ w : List Nat, (imgW u v w).length ≤ w.length * m
  | [] => by simp [imgW]
  | c :: w => by
    have := imgW_len hu hv w
    rw [imgW_cons, List.length_append, List.length_cons, Nat.succ_mul]
    split <;> omega
theorem imgW_pos {u v : List Nat} (hu : 1 ≤ u.length) (hv : 1 ≤ v.length) : ∀ w : List Nat, w.length ≤ (imgW u v w).length
  | [] => by simp [imgW]
  | c :: w => by
    have := imgW_pos hu hv w
    rw [imgW_cons, List.length_append, List.length_cons]
    split <;> omega
theorem imgW_wd {u v : List Nat} (hu : Wd u) (hv : Wd v) : ∀ w : List Nat, Wd (imgW u v w)
  | [] => fun c h => by cases h
  | c :: w => by
    rw [imgW_cons]
    intro x hx
    rcases List.mem_append.mp hx with h | h
    · split at h
      · exact hu x h
      · exact hv x h
    · exact imgW_wd hu hv w x h
structure Rp (u v : List Nat) : Prop where
  wu : Wd u
  wv : Wd v
  u1 : 1 ≤ u.length
  u2 : u.length ≤ 60
  v1 : 1 ≤ v.length
  v2 : v.length ≤ 60
theorem idx_natT {xs : List D} {i : Int} {j : Nat} {d : D} (h : xs[j]? = some d) (hi : i = j) : idxD (.tup xs) (.int i) = some d := by
  show atI _ _ = _
  have := (List.getElem?_eq_some_iff.mp h).1
  rw [at_of (by omega) (by omega)]
  subst hi
  rw [← h, List.getElem?_eq_getElem this]
  rfl
@[simp] theorem idx_t0 {x : D} {xs : List D} : idxD (.tup (x :: xs)) (.int 0) = some x := idx_natT (j := 0) rfl rfl
@[simp] theorem idx_t1 {x y : D} {xs : List D} : idxD (.tup (x :: y :: xs)) (.int 1) = some y := idx_natT (j := 1) rfl rfl
@[simp] theorem idx_t2 {x y z : D} {xs : List D} : idxD (.tup (x :: y :: z :: xs)) (.int 2) = some z := idx_natT (j := 2) rfl rfl
theorem lenS_of {s : List Nat} (h : s.length ≤ 1000000) : lenD [.str s] = some (.int s.length) := lenS (by show s.length ≤ 16777216; omega)
section
variable {Φ Φf : Str → Option Fsem} {G : Str → Option D} {fuel : Nat}
def eImgIn : CE := .ite (.cmp .Eq (.var 2) (.con (.str [97]))) (.idx (.var 0) (.con (.int 0))) (.idx (.var 0) (.con (.int 1)))
def bImgIn : List CS := [.ret (.mth .join (.con (.str [])) (.lc eImgIn (.one 2) .seq [.var 1] (.con (.bl true)) [("letter", 2)]))]
def IiOk (F : Fsem) : Prop := ∀ (u v w : List Nat) (S : Sto), w.length ≤ 1000000 → (imgW u v w).length ≤ 1000000 → F [pd u v, .str w] S = .ok (.str (imgW u v w)) S
theorem iiOk : IiOk (fsem Φ Φf G fuel 2 3 bImgIn) := by
  intro u v w S hw hi
  have e0 : lcLoop (fun _ S => .ok (.bl true) S) (ev Φ G eImgIn) (.one 2) [some (pd u v), some (.str w), none] (w.map fun c => .str [c]) [] S = .ok (.lst (w.map fun c => .str (if c = 97 then u else v))) S := by
    rw [lc_at (fun c => .str [c]) (fun c => .str (if c = 97 then u else v)) _ _ fun c hc => ⟨_, rfl, rfl, ?_, rfl⟩]
    · rfl
    · by_cases h : c = 97 <;> simp [eImgIn, h]
  have hl : w.length ≤ 16777216 := by omega
  have hj := join_strs (ys := w.map fun c => if c = 97 then u else v) (by
    have : (imgW u v w).length = ((w.map fun c => if c = 97 then u else v).map (·.length)).sum := by unfold imgW; rw [List.length_flatten]
    rw [← this]; show (imgW u v w).length ≤ 16777216; omega)
  rw [List.map_map] at hj
  have hj : joinD (.str []) (.lst (w.map fun c => .str (if c = 97 then u else v))) = some (.str (imgW u v w)) := hj
  simp [bImgIn, e0, szL, hl, hj]
def lNeedRep : List CS := [.ite (.not (.call "is_word" [.var 2, .con (.int 1), .glob "MOST_SIZE"])) [.never] []]
def bNeedRep : List CS := [.ite (.or (.not (.isi (.var 0) "tuple")) (.cmp .NotEq (.blt .len [.var 0]) (.con (.int 2)))) [.never] [],
  .loop (.many [1, 2]) .enm [.var 0] lNeedRep, .ret (.var 0)]
def NrOk (F : Fsem) : Prop := ∀ (u v : List Nat) (S : Sto), Rp u v → F [pd u v] S = .ok (pd u v) S
theorem nrOk {F : Fsem} (g : G "MOST_SIZE" = some (.int 60)) (e : Φ "is_word" = some F) (h : IwOk F) : NrOk (fsem Φ Φf G fuel 1 3 bNeedRep) := by
  intro u v S r
  have a1 := h u 1 60 S r.wu (by have := r.u2; show u.length ≤ 16777216; omega) (by have := r.u1; omega) (by have := r.u2; omega)
  have a2 := h v 1 60 S r.wv (by have := r.v2; show v.length ≤ 16777216; omega) (by have := r.v1; omega) (by have := r.v2; omega)
  have i1 : isiD "tuple" (pd u v) = some (.bl true) := rfl
  have i2 : cmpD .NotEq (.int 2) (.int 2) = some (.bl false) := rfl
  have i3 : itD .enm [pd u v] = some [.tup [.int 0, .str u], .tup [.int 1, .str v]] := rfl
  simp [bNeedRep, lNeedRep, i1, i2, i3, loopN, e, g, a1, a2]
def bImage : List CS := [.exp (.call "need_replacement" [.var 0]), .ret (.call "image_in" [.var 0, .call "need_word" [.var 1]])]
def ImOk (F : Fsem) : Prop := ∀ (u v w : List Nat) (S : Sto), Rp u v → Wd w → w.length ≤ 400 → F [pd u v, .str w] S = .ok (.str (imgW u v w)) S
theorem imOk {Fr Fi Fw : Fsem} (er : Φ "need_replacement" = some Fr) (hr : NrOk Fr) (ei : Φ "image_in" = some Fi) (hi : IiOk Fi) (ew : Φ "need_word" = some Fw) (hw : NwOk Fw) : ImOk (fsem Φ Φf G fuel 2 2 bImage) := by
  intro u v w S r w1 w2
  have a1 := hr u v S r
  have a2 := hw w S w1 w2
  have a3 := hi u v w S (by omega) (by have := imgW_len r.u2 r.v2 w; omega)
  simp [bImage, er, ei, ew, a1, a2, a3]
def bBehindIn : List CS := [.set (.one 2) (.tup [.call "image_in" [.var 0, .idx (.var 1) (.con (.int 0))], .call "image_in" [.var 0, .idx (.var 1) (.con (.int 1))]]),
  .ite (.cmp .Gt (.blt .max [.blt .len [.idx (.var 2) (.con (.int 0))], .blt .len [.idx (.var 2) (.con (.int 1))]]) (.glob "MOST_SIZE")) [.never] [],
  .ret (.var 2)]
theorem max2 {i j : Nat} {m : Int} (h1 : (i : Int) ≤ m) (h2 : (j : Int) ≤ m) : ∃ k : Int, maxD [.int i, .int j] = some (.int k) ∧ k ≤ m := by
  refine ⟨_, rfl, ?_⟩
  split <;> omega
def BiOk (F : Fsem) : Prop := ∀ (u v x y : List Nat) (S : Sto), Rp u v → Rp x y → (imgW u v x).length ≤ 60 → (imgW u v y).length ≤ 60 → F [pd u v, pd x y] S = .ok (pd (imgW u v x) (imgW u v y)) S
theorem biOk {Fi : Fsem} (g : G "MOST_SIZE" = some (.int 60)) (ei : Φ "image_in" = some Fi) (hi : IiOk Fi) : BiOk (fsem Φ Φf G fuel 2 3 bBehindIn) := by
  intro u v x y S r q h1 h2
  have a1 := hi u v x S (by have := q.u2; omega) (by omega)
  have a2 := hi u v y S (by have := q.v2; omega) (by omega)
  have l1 := lenS_of (s := imgW u v x) (by omega)
  have l2 := lenS_of (s := imgW u v y) (by omega)
  obtain ⟨k, m, hk⟩ := max2 (i := (imgW u v x).length) (j := (imgW u v y).length) (m := 60) (by omega) (by omega)
  have hk' : ¬ (60 < k) := by omega
  simp [bBehindIn, ei, a1, a2, szL, l1, l2, m, g, hk']
def bBehind : List CS := [.exp (.call "need_replacement" [.var 0]), .ret (.call "behind_in" [.var 0, .call "need_replacement" [.var 1]])]
theorem bhOk {Fr Fb : Fsem} (er : Φ "need_replacement" = some Fr) (hr : NrOk Fr) (eb : Φ "behind_in" = some Fb) (hb : BiOk Fb) : BiOk (fsem Φ Φf G fuel 2 2 bBehind) := by
  intro u v x y S r q h1 h2
  have a1 := hr u v S r
  have a2 := hr x y S q
  have a3 := hb u v x y S r q h1 h2
  simp [bBehind, er, eb, a1, a2, a3]
def bWhole : List CS := [.ret (.and (.isi (.var 0) "int") (.and (.not (.isi (.var 0) "bool")) (.cmp .GtE (.var 0) (.var 1))))]
def WhOk (F : Fsem) : Prop := ∀ (n m : Int) (S : Sto), F [.int n, .int m] S = .ok (.bl (decide (m ≤ n))) S
theorem whOk : WhOk (fsem Φ Φf G fuel 2 2 bWhole) := by
  intro n m S
  have i1 : isiD "int" (.int n) = some (.bl true) := rfl
  have i2 : isiD "bool" (.int n) = some (.bl false) := rfl
  simp [bWhole, i1, i2]
  by_cases h : n < m
  · simp [h]
  · simp [h]; omega
/-- a pair behind itself, k times -/
def pwW (u v : List Nat) : Nat → List Nat × List Nat
  | 0 => ([97], [98])
  | k + 1 => (imgW u v (pwW u v k).1, imgW u v (pwW u v k).2)
def lOften : List CS := [.set (.one 2) (.call "behind_in" [.var 0, .var 2])]
def bOften : List CS := [.exp (.call "need_replacement" [.var 0]),
  .ite (.or (.not (.call "is_whole" [.var 1, .con (.int 1)])) (.cmp .Gt (.var 1) (.glob "MOST_OFTEN"))) [.never] [],
  .set (.one 2) (.glob "SAME"), .loop (.one 3) .rng [.var 1] lOften, .ret (.var 2)]
theorem pw_rp {u v : List Nat} (r : Rp u v) {n : Nat} (h : ∀ k, k ≤ n → (pwW u v k).1.length ≤ 60 ∧ (pwW u v k).2.length ≤ 60) : ∀ k, k ≤ n → Rp (pwW u v k).1 (pwW u v k).2
  | 0, _ => ⟨fun c h => by simp [pwW] at h; exact .inl h, fun c h => by simp [pwW] at h; exact .inr h, by simp [pwW], by simp [pwW], by simp [pwW], by simp [pwW]⟩
  | k + 1, hk => by
    have ih := pw_rp r h k (by omega)
    obtain ⟨h1, h2⟩ := h (k + 1) hk
    refine ⟨imgW_wd r.wu r.wv _, imgW_wd r.wu r.wv _, ?_, h1, ?_, h2⟩
    · exact Nat.le_trans ih.u1 (imgW_pos r.u1 r.v1 _)
    · exact Nat.le_trans ih.v1 (imgW_pos r.u1 r.v1 _)
def OnOk (F : Fsem) : Prop := ∀ (u v : List Nat) (n : Nat) (S : Sto), Rp u v → 1 ≤ n → n ≤ 60 → (∀ k, k ≤ n → (pwW u v k).1.length ≤ 60 ∧ (pwW u v k).2.length ≤ 60) → F [pd u v, .int n] S = .ok (pd (pwW u v n).1 (pwW u v n).2) S
theorem onOk {Fr Fb Fw : Fsem} (g1 : G "MOST_OFTEN" = some (.int 60)) (g2 : G "SAME" = some (pd [97] [98])) (er : Φ "need_replacement" = some Fr) (hr : NrOk Fr) (eb : Φ "behind_in" = some Fb) (hb : BiOk Fb) (ew : Φ "is_whole" = some Fw) (hw : WhOk Fw) : OnOk (fsem Φ Φf G fuel 2 4 bOften) := by
  intro u v n S r n1 n2 hp
  have a1 := hr u v S r
  have a2 := hw n 1 S
  have a2 : Fw [.int n, .int 1] S = .ok (.bl true) S := by rw [a2, decide_eq_true (by omega)]
  have n3 : ¬ (60 < (n : Int)) := by omega
  have hi : itD .rng [.int n] = some (rngL 0 n) := it_rng1 (in62_of (by omega) (by omega)) (by omega)
  have hl : ∀ n0 : Nat, ∃ x, loopN (exSs Φ Φf G fuel n0 lOften) (.one 3) (rngL 0 n) [some (pd u v), some (.int n), some (pd [97] [98]), none] S = .next [some (pd u v), some (.int n), some (pd (pwW u v n).1 (pwW u v n).2), x] S := by
    intro n0
    refine loop0 (I := fun i Γ S' => S' = S ∧ ∃ x, Γ = [some (pd u v), some (.int n), some (pd (pwW u v i).1 (pwW u v i).2), x]) (post := fun q => ∃ x, q = .next [some (pd u v), some (.int n), some (pd (pwW u v n).1 (pwW u v n).2), x] S) ⟨rfl, none, rfl⟩ ?_ ?_
    · rintro i x Γ S' hx ⟨rfl, y, rfl⟩
      obtain ⟨hi, rfl⟩ := rngAt hx
      have q := pw_rp r hp i (by omega)
      obtain ⟨l1, l2⟩ := hp (i + 1) (by omega)
      have b := hb u v (pwW u v i).1 (pwW u v i).2 S' r q l1 l2
      refine ⟨_, rfl, .inl ⟨_, S', ?_, rfl, some (.int (0 + (i : Int))), rfl⟩⟩
      simp [lOften, eb, b, pwW]
    · rintro Γ S' ⟨rfl, x, rfl⟩
      rw [rng_len]
      exact ⟨x, rfl⟩
  obtain ⟨x, hl⟩ := hl S.length
  simp [bOften, er, ew, a1, a2, n3, g1, g2, hi, hl]
end
end EK

set_option Elab.async false
set_option linter.all false
set_option maxRecDepth 100000
set_option maxHeartbeats 4000000
namespace EK
open PySem L2 PySem.Spec PyProof.Rows
/-! ### the law's own images, names, pairs -/
section
variable {Φ Φf : Str → Option Fsem} {G : Str → Option D} {fuel : Nat}
def lLImg : List CS := [.set (.one 2) (.bin .Add (.var 2) (.idx (.var 0) (.blt .int [.cmp .Eq (.var 3) (.con (.str [98]))])))]
def bLImg : List CS := [.set (.one 2) (.con (.str [])), .loop (.one 3) .seq [.var 1] lLImg, .ret (.var 2)]
def LiOk (F : Fsem) : Prop := ∀ (u v w : List Nat) (S : Sto), Wd w → (imgW u v w).length ≤ 1000000 → F [pd u v, .str w] S = .ok (.str (imgW u v w)) S
theorem liOk : LiOk (fsem Φ Φf G fuel 2 4 bLImg) := by
  intro u v w S hw hi
  have key : ∀ n0 : Nat, ∃ x, loopN (exSs Φ Φf G fuel n0 lLImg) (.one 3) (w.map fun c => .str [c]) [some (pd u v), some (.str w), some (.str []), none] S = .next [some (pd u v), some (.str w), some (.str (imgW u v w)), x] S := by
    intro n0
    refine loop0 (I := fun i Γ S' => S' = S ∧ ∃ x, Γ = [some (pd u v), some (.str w), some (.str (imgW u v (w.take i))), x]) (post := fun q => ∃ x, q = .next [some (pd u v), some (.str w), some (.str (imgW u v w)), x] S) ⟨rfl, none, rfl⟩ ?_ ?_
    · rintro i x Γ S' hx ⟨rfl, y, rfl⟩
      rw [List.getElem?_map] at hx
      cases hc : w[i]? with
      | none => rw [hc] at hx; cases hx
      | some c =>
        rw [hc] at hx
        cases hx
        have hi' := (List.getElem?_eq_some_iff.mp hc).1
        have et : w.take (i + 1) = w.take i ++ [c] := by
          rw [List.take_add_one, hc]; rfl
        have ei : imgW u v (w.take (i + 1)) = imgW u v (w.take i) ++ (if c = 97 then u else v) := by
          rw [et, imgW_app]; simp [imgW]
        have hle : (imgW u v (w.take (i + 1))).length ≤ (imgW u v w).length := by
          have : imgW u v w = imgW u v (w.take (i + 1)) ++ imgW u v (w.drop (i + 1)) := by rw [← imgW_app, List.take_append_drop]
          rw [this, List.length_append]; omega
        refine ⟨_, rfl, .inl ⟨_, S', ?_, rfl, some (.str [c]), rfl⟩⟩
        rw [ei] at hle ⊢
        rw [List.length_append] at hle
        have cw := hw c (List.mem_of_getElem? hc)
        by_cases h : c = 97
        · rw [if_pos h] at hle ⊢
          have a := add_str (s := imgW u v (w.take i)) (t := u) (by show _ ≤ 16777216; omega)
          simp [lLImg, h, a]
        · rw [if_neg h] at hle ⊢
          have h98 : c = 98 := cw.resolve_left h
          have a := add_str (s := imgW u v (w.take i)) (t := v) (by show _ ≤ 16777216; omega)
          simp [lLImg, h98, a]
    · rintro Γ S' ⟨rfl, x, rfl⟩
      rw [List.length_map, List.take_length]
      exact ⟨x, rfl⟩
  obtain ⟨x, key⟩ := key S.length
  simp [bLImg, key]
/-- the three names -/
inductive Nm where
  | back | front | swap
def Nm.s : Nm → List Nat
  | .back => [98, 97, 99, 107]
  | .front => [102, 114, 111, 110, 116]
  | .swap => [115, 119, 97, 112]
def Nm.a : Nm → List Nat
  | .back => [98, 97]
  | .front => [97, 98]
  | .swap => [98]
def Nm.b : Nm → List Nat
  | _ => [97]
def nmD (n : Nm) : D := .str n.s
theorem Nm.rp (n : Nm) : Rp n.a n.b := by
  cases n <;> exact ⟨wdB_ok rfl, wdB_ok rfl, by decide, by decide, by decide, by decide⟩
def bMeant : List CS := [.ret (.idx (.dic [.inr "back", .inr "front", .inr "swap"] [.tup [.con (.str [98, 97]), .con (.str [97])], .tup [.con (.str [97, 98]), .con (.str [97])], .tup [.con (.str [98]), .con (.str [97])]]) (.var 0))]
def MeOk (F : Fsem) : Prop := ∀ (n : Nm) (S : Sto), F [nmD n] S = .ok (pd n.a n.b) S
theorem meOk : MeOk (fsem Φ Φf G fuel 1 1 bMeant) := by
  intro n S
  have nd : ([.inr "back", .inr "front", .inr "swap"] : List Key).Nodup := by decide
  have h2 : 2 ≤ szL := by decide
  have n1 : ¬ (Str.ofString "back" = Str.ofString "front") := by decide
  have n2 : ¬ (Str.ofString "back" = Str.ofString "swap") := by decide
  have n3 : ¬ (Str.ofString "front" = Str.ofString "swap") := by decide
  have e : idxD (.dic [(.inr "back", pd [98, 97] [97]), (.inr "front", pd [97, 98] [97]), (.inr "swap", pd [98] [97])]) (nmD n) = some (pd n.a n.b) := by cases n <;> rfl
  have hv : vw S (nmD n) = nmD n := by cases n <;> rfl
  simp [bMeant, h2, n1, n2, n3, e, hv]
/-- what names tell -/
def toldW : List Nm → List Nat × List Nat
  | [] => ([97], [98])
  | n :: r => (imgW n.a n.b (toldW r).1, imgW n.a n.b (toldW r).2)
theorem told_wd : ∀ ns : List Nm, Wd (toldW ns).1 ∧ Wd (toldW ns).2 ∧ 1 ≤ (toldW ns).1.length ∧ 1 ≤ (toldW ns).2.length
  | [] => ⟨fun c h => by simp [toldW] at h; exact .inl h, fun c h => by simp [toldW] at h; exact .inr h, by simp [toldW], by simp [toldW]⟩
  | n :: r => by
    obtain ⟨h1, h2, h3, h4⟩ := told_wd r
    have q := n.rp
    exact ⟨imgW_wd q.wu q.wv _, imgW_wd q.wu q.wv _, Nat.le_trans h3 (imgW_pos q.u1 q.v1 _), Nat.le_trans h4 (imgW_pos q.u1 q.v1 _)⟩
theorem told_len : ∀ ns : List Nm, (toldW ns).1.length ≤ 2 ^ ns.length ∧ (toldW ns).2.length ≤ 2 ^ ns.length
  | [] => by simp [toldW]
  | n :: r => by
    obtain ⟨h1, h2⟩ := told_len r
    have a1 := imgW_len (u := n.a) (v := n.b) (m := 2) (by cases n <;> decide) (by cases n <;> decide) (toldW r).1
    have a2 := imgW_len (u := n.a) (v := n.b) (m := 2) (by cases n <;> decide) (by cases n <;> decide) (toldW r).2
    rw [List.length_cons, Nat.pow_succ]
    simp only [toldW]
    omega
def lTold : List CS := [.set (.one 1) (.tup [.call "_law_image" [.call "_law_meant" [.var 2], .idx (.var 1) (.con (.int 0))], .call "_law_image" [.call "_law_meant" [.var 2], .idx (.var 1) (.con (.int 1))]])]
def bTold : List CS := [.set (.one 1) (.tup [.con (.str [97]), .con (.str [98])]), .loop (.one 2) .seq [.rev (.var 0)] lTold, .ret (.var 1)]
def ToOk (F : Fsem) : Prop := ∀ (ns : List Nm) (S : Sto), ns.length ≤ 18 → F [.tup (ns.map nmD)] S = .ok (pd (toldW ns).1 (toldW ns).2) S
theorem toOk {Fi Fm : Fsem} (ei : Φ "_law_image" = some Fi) (hi : LiOk Fi) (em : Φ "_law_meant" = some Fm) (hm : MeOk Fm) : ToOk (fsem Φ Φf G fuel 1 3 bTold) := by
  intro ns S hn
  have key : ∀ n0 : Nat, ∃ x, loopN (exSs Φ Φf G fuel n0 lTold) (.one 2) ((ns.map nmD).reverse) [some (.tup (ns.map nmD)), some (pd [97] [98]), none] S = .next [some (.tup (ns.map nmD)), some (pd (toldW ns).1 (toldW ns).2), x] S := by
    intro n0
    refine loop0 (I := fun i Γ S' => S' = S ∧ ∃ x, Γ = [some (.tup (ns.map nmD)), some (pd (toldW (ns.drop (ns.length - i))).1 (toldW (ns.drop (ns.length - i))).2), x]) (post := fun q => ∃ x, q = .next [some (.tup (ns.map nmD)), some (pd (toldW ns).1 (toldW ns).2), x] S) ⟨rfl, none, by simp [toldW]⟩ ?_ ?_
    · rintro i x Γ S' hx ⟨rfl, y, rfl⟩
      have hi' := (List.getElem?_eq_some_iff.mp hx).1
      rw [List.length_reverse, List.length_map] at hi'
      rw [List.getElem?_reverse (by rw [List.length_map]; exact hi'), List.length_map, List.getElem?_map] at hx
      obtain ⟨m, em', rfl⟩ : ∃ m, ns[ns.length - 1 - i]? = some m ∧ x = nmD m := by
        cases q : ns[ns.length - 1 - i]? with
        | none => rw [q] at hx; cases hx
        | some m => rw [q] at hx; cases hx; exact ⟨m, rfl, rfl⟩
      have ed : ns.drop (ns.length - (i + 1)) = m :: ns.drop (ns.length - i) := by
        have e1 : ns.length - (i + 1) = ns.length - 1 - i := by omega
        have e2 : ns.length - i = ns.length - 1 - i + 1 := by omega
        rw [e1, e2]
        have hlt := (List.getElem?_eq_some_iff.mp em').1
        rw [List.drop_eq_getElem_cons hlt]
        congr 1
        exact (List.getElem?_eq_some_iff.mp em').2
      obtain ⟨w1, w2, _, _⟩ := told_wd (ns.drop (ns.length - i))
      obtain ⟨l1, l2⟩ := told_len (m :: ns.drop (ns.length - i))
      have lb : 2 ^ (m :: ns.drop (ns.length - i)).length ≤ 2 ^ 18 := Nat.pow_le_pow_right (by omega) (by rw [← ed, List.length_drop]; omega)
      have b1 := hi m.a m.b _ S' w1 (by simp only [toldW] at l1; omega)
      have b2 := hi m.a m.b _ S' w2 (by simp only [toldW] at l2; omega)
      have mm := hm m S'
      refine ⟨_, rfl, .inl ⟨_, S', ?_, rfl, some (nmD m), rfl⟩⟩
      rw [ed]
      simp [lTold, ei, em, mm, b1, b2, szL, toldW]
    · rintro Γ S' ⟨rfl, x, rfl⟩
      rw [List.length_reverse, List.length_map, Nat.sub_self, List.drop_zero]
      exact ⟨x, rfl⟩
  obtain ⟨x, key⟩ := key S.length
  have r : revD (.tup (ns.map nmD)) = some (.tup (ns.map nmD).reverse) := rfl
  have h2 : 2 ≤ szL := by decide
  simp [bTold, h2, r, key]
def lNames : List CS := [.set (.one 4) (.bin .Add (.var 2) (.tup [.call "_law_of" [.var 0, .lst [.con (.str [98, 97, 99, 107]), .con (.str [102, 114, 111, 110, 116]), .con (.str [115, 119, 97, 112])]]])),
  .set (.one 5) (.call "_law_told" [.var 4]),
  .ite (.cmp .LtE (.blt .max [.blt .len [.idx (.var 5) (.con (.int 0))], .blt .len [.idx (.var 5) (.con (.int 1))]]) (.con (.int 60))) [.set (.one 2) (.var 4)] []]
def bNames : List CS := [.set (.one 2) (.tup []), .loop (.one 3) .rng [.call "_law_draw" [.var 0, .bin .Add (.var 1) (.con (.int 1))]] lNames, .ret (.var 2)]
def LnmOk [TS] (F : Fsem) : Prop := ∀ (b : Int) (most : Nat) (S : Sto), DS b S → b < 2 ^ 40 → most ≤ 16 → ∃ ns S', F [.loc TS.T.length, .int most] S = .ok (.tup (ns.map nmD)) S' ∧ ns.length ≤ most ∧ (toldW ns).1.length ≤ 60 ∧ (toldW ns).2.length ≤ 60 ∧ DS (b + 1 + most) S'
theorem add_tup {xs ys : List D} (h : xs.length + ys.length ≤ szL) : addD (.tup xs) (.tup ys) = some (.tup (xs ++ ys)) := by
  show (if xs.length + ys.length ≤ szL then some (D.tup (xs ++ ys)) else none) = _
  rw [if_pos h]
theorem max2v {i j : Nat} : maxD [.int i, .int j] = some (.int ((max i j : Nat) : Int)) := by
  show some (D.int (if (j : Int) > (i : Int) then (j : Int) else (i : Int))) = _
  congr 2
  split <;> omega
theorem nm_mem {x : D} (h : x ∈ [.str [98, 97, 99, 107], .str [102, 114, 111, 110, 116], (.str [115, 119, 97, 112] : D)]) : ∃ n, x = nmD n := by
  simp only [List.mem_cons, List.not_mem_nil, or_false] at h
  rcases h with rfl | rfl | rfl
  · exact ⟨.back, rfl⟩
  · exact ⟨.front, rfl⟩
  · exact ⟨.swap, rfl⟩
theorem names_body [TS] {Fo Ft : Fsem} (eo : Φ "_law_of" = some Fo) (ho : OfOk Fo) (et : Φ "_law_told" = some Ft) (ht : ToOk Ft) {b : Int} {S : Sto} {n0 : Nat} {ns : List Nm} {m : Nat} {x y z : Option D} (h0 : DS b S) (hb : b < 2 ^ 45) (hn : ns.length ≤ 17) (h1 : (toldW ns).1.length ≤ 60) (h2 : (toldW ns).2.length ≤ 60) :
    ∃ ns' y' z' S', exSs Φ Φf G fuel n0 lNames [some (.loc TS.T.length), some (.int m), some (.tup (ns.map nmD)), x, y, z] S = .next [some (.loc TS.T.length), some (.int m), some (.tup (ns'.map nmD)), x, y', z'] S' ∧ ns'.length ≤ ns.length + 1 ∧ (toldW ns').1.length ≤ 60 ∧ (toldW ns').2.length ≤ 60 ∧ DS (b + 1) S' := by
  obtain ⟨d, S1, d1, d2, d3⟩ := ho.1 b [.str [98, 97, 99, 107], .str [102, 114, 111, 110, 116], .str [115, 119, 97, 112]] S h0 (by omega) (by simp) (by simp) (by simp)
  obtain ⟨n, rfl⟩ := nm_mem d1
  have hz : szL = 16777216 := rfl
  have a := add_tup (xs := ns.map nmD) (ys := [nmD n]) (by rw [List.length_map, List.length_singleton, hz]; omega)
  have e : ns.map nmD ++ [nmD n] = (ns ++ [n]).map nmD := by simp
  rw [e] at a
  have t := ht (ns ++ [n]) S1 (by rw [List.length_append, List.length_singleton]; omega)
  have lb : 2 ^ (ns ++ [n]).length ≤ 2 ^ 18 := Nat.pow_le_pow_right (by omega) (by rw [List.length_append, List.length_singleton]; omega)
  obtain ⟨l1, l2⟩ := told_len (ns ++ [n])
  have k1 := lenS_of (s := (toldW (ns ++ [n])).1) (by omega)
  have k2 := lenS_of (s := (toldW (ns ++ [n])).2) (by omega)
  have nl : noLoc (nmD n) = true := rfl
  have vn : vw S1 (.tup (ns.map nmD)) = .tup (ns.map nmD) := rfl
  by_cases c : (60 : Int) < ((max (toldW (ns ++ [n])).1.length (toldW (ns ++ [n])).2.length : Nat) : Int)
  · refine ⟨ns, some (.tup ((ns ++ [n]).map nmD)), some (pd (toldW (ns ++ [n])).1 (toldW (ns ++ [n])).2), S1, ?_, by omega, h1, h2, d3⟩
    generalize hT : ns ++ [n] = T at *
    generalize hA : (toldW T).1 = A at *
    generalize hB : (toldW T).2 = B at *
    generalize hM : T.map nmD = TM at *
    generalize ns.map nmD = NM at *
    simp only [lNames, exSs, exS, ev, evs, List.getElem?_cons_zero, List.getElem?_cons_succ, eo, d2, bindA_ok, bind_ok, hz, szL]
    simp [lNames, eo, et, d2, nl, hz, a, t, k1, k2, max2v, c]
  · refine ⟨ns ++ [n], some (.tup ((ns ++ [n]).map nmD)), some (pd (toldW (ns ++ [n])).1 (toldW (ns ++ [n])).2), S1, ?_, by simp, by omega, by omega, d3⟩
    generalize hT : ns ++ [n] = T at *
    generalize hA : (toldW T).1 = A at *
    generalize hB : (toldW T).2 = B at *
    generalize hM : T.map nmD = TM at *
    generalize ns.map nmD = NM at *
    simp [lNames, eo, et, d2, nl, hz, a, t, k1, k2, max2v, c]
theorem lnmOk [TS] {Fd Fo Ft : Fsem} (ed : Φ "_law_draw" = some Fd) (hd : DrawOk Fd) (eo : Φ "_law_of" = some Fo) (ho : OfOk Fo) (et : Φ "_law_told" = some Ft) (ht : ToOk Ft) : LnmOk (fsem Φ Φf G fuel 2 6 bNames) := by
  intro b most S h0 hb hm
  have t0 := take1 h0
  obtain ⟨r, S1, e1, r0, r1, h1⟩ := hd b ((most : Int) + 1) S h0 (by omega) (by omega) (by omega)
  have hi : itD .rng [.int r] = some (rngL 0 r.toNat) := it_rng1 (in62_of (by omega) (by omega)) rfl
  have key : ∀ n0 : Nat, ∃ ns x y z S', loopN (exSs Φ Φf G fuel n0 lNames) (.one 3) (rngL 0 r.toNat) [some (.loc TS.T.length), some (.int most), some (.tup []), none, none, none] S1 = .next [some (.loc TS.T.length), some (.int most), some (.tup (ns.map nmD)), x, y, z] S' ∧ ns.length ≤ most ∧ (toldW ns).1.length ≤ 60 ∧ (toldW ns).2.length ≤ 60 ∧ DS (b + 1 + most) S' := by
    intro n0
    refine loop0 (I := fun i Γ S' => ∃ ns x y z, Γ = [some (.loc TS.T.length), some (.int most), some (.tup (ns.map nmD)), x, y, z] ∧ ns.length ≤ i ∧ (toldW ns).1.length ≤ 60 ∧ (toldW ns).2.length ≤ 60 ∧ DS (b + 1 + i) S')
      (post := fun q => ∃ ns x y z S', q = .next [some (.loc TS.T.length), some (.int most), some (.tup (ns.map nmD)), x, y, z] S' ∧ ns.length ≤ most ∧ (toldW ns).1.length ≤ 60 ∧ (toldW ns).2.length ≤ 60 ∧ DS (b + 1 + most) S')
      ⟨[], none, none, none, rfl, by simp, by simp [toldW], by simp [toldW], h1.mono (by omega)⟩ ?_ ?_
    · rintro i x Γ S' hx ⟨ns, x', y, z, rfl, q1, q2, q3, q4⟩
      obtain ⟨hi, rfl⟩ := rngAt hx
      obtain ⟨ns', y', z', S2, e, p1, p2, p3, p4⟩ := names_body (Φf := Φf) (G := G) (fuel := fuel) (n0 := n0) (m := most) (x := some (.int (0 + (i : Int)))) (y := y) (z := z) eo ho et ht q4 (by omega) (by omega) q2 q3
      exact ⟨_, rfl, .inl ⟨_, S2, e, ns', _, y', z', rfl, by omega, p2, p3, p4.mono (by omega)⟩⟩
    · rintro Γ S' ⟨ns, x', y, z, rfl, q1, q2, q3, q4⟩
      rw [rng_len] at q1 q4
      exact ⟨ns, x', y, z, S', rfl, by omega, q2, q3, q4.mono (by omega)⟩
  obtain ⟨ns, x, y, z, S', e, q1, q2, q3, q4⟩ := key (TS.n)
  have t := take1 q4
  refine ⟨ns, S', ?_, q1, q2, q3, q4⟩
  have h0s : 0 ≤ szL := by decide
  simp [bNames, ed, e1, hi, t0.2, e, t.1]
end
end EK

set_option Elab.async false
set_option linter.all false
set_option maxRecDepth 100000
set_option maxHeartbeats 4000000
namespace EK
open PySem L2 PySem.Spec PyProof.Rows
/-! ### the law's pairs -/
def pBent : List CS := [.par [6, 7] [.inl (.call "_law_draw" [.var 0, .con (.int 2)]), .inl (.call "_law_draw" [.var 0, .con (.int 8)])],
  .set (.one 5) (.bin .Add (.bin .Add (.sl (.idx (.var 3) (.var 6)) (.con .non) (.var 7)) (.call "_law_of" [.var 0, .lst [.con (.str [97]), .con (.str [98]), .con (.str [])]])) (.sl (.idx (.var 3) (.var 6)) (.bin .Add (.var 7) (.con (.int 1))) (.con .non))),
  .set (.one 3) (.ite (.cmp .Eq (.var 6) (.con (.int 1))) (.tup [.idx (.var 3) (.con (.int 0)), .var 5]) (.tup [.var 5, .idx (.var 3) (.con (.int 1))]))]
def pTold : List CS := [.set (.one 3) (.call "_law_told" [.call "_law_names" [.var 0, .var 1]]),
  .ite (.cmp .Eq (.var 2) (.con (.int 2))) pBent [],
  .ret (.ite (.and (.cmp .NotEq (.idx (.var 3) (.con (.int 0))) (.con (.str []))) (.cmp .NotEq (.idx (.var 3) (.con (.int 1))) (.con (.str [])))) (.var 3) (.tup [.con (.str [97, 98]), .con (.str [97])]))]
def pPow : List CS := [.set (.one 4) (.bin .Add (.call "_law_near_text" [.var 0, .bin .Add (.con (.int 1)) (.call "_law_draw" [.var 0, .con (.int 5)])]) (.con (.str [97]))),
  .ret (.tup [.bin .Mult (.var 4) (.bin .Add (.con (.int 1)) (.call "_law_draw" [.var 0, .con (.int 3)])), .bin .Mult (.var 4) (.bin .Add (.con (.int 1)) (.call "_law_draw" [.var 0, .con (.int 3)]))])]
def pNear : List CS := [.ret (.tup [.bin .Add (.call "_law_near_text" [.var 0, .bin .Add (.con (.int 1)) (.call "_law_draw" [.var 0, .con (.int 6)])]) (.con (.str [98])), .bin .Add (.call "_law_near_text" [.var 0, .bin .Add (.con (.int 1)) (.call "_law_draw" [.var 0, .con (.int 6)])]) (.con (.str [97]))])]
def pAny : CS := .ret (.tup [.call "_law_letters" [.var 0, .bin .Add (.con (.int 1)) (.call "_law_draw" [.var 0, .con (.int 5)])], .call "_law_letters" [.var 0, .bin .Add (.con (.int 1)) (.call "_law_draw" [.var 0, .con (.int 5)])]])
def bPair : List CS := [.set (.one 2) (.call "_law_draw" [.var 0, .con (.int 6)]), .ite (.cmp .Lt (.var 2) (.con (.int 3))) pTold [], .ite (.cmp .Eq (.var 2) (.con (.int 3))) pPow [], .ite (.cmp .Eq (.var 2) (.con (.int 4))) pNear [], pAny]
def LpOk [TS] (F : Fsem) : Prop := ∀ (b : Int) (most : Nat) (S : Sto), DS b S → b < 2 ^ 38 → most ≤ 16 → ∃ u v S', F [.loc TS.T.length, .int most] S = .ok (pd u v) S' ∧ Rp u v ∧ DS (b + 1100) S'
theorem wd_app {u v : List Nat} (hu : Wd u) (hv : Wd v) : Wd (u ++ v) := fun c h => (List.mem_append.mp h).elim (hu c) (hv c)
theorem wd_take {u : List Nat} (hu : Wd u) (n : Nat) : Wd (u.take n) := fun c h => hu c (List.mem_of_mem_take h)
theorem wd_drop {u : List Nat} (hu : Wd u) (n : Nat) : Wd (u.drop n) := fun c h => hu c (List.mem_of_mem_drop h)
theorem wd_rep {u : List Nat} (hu : Wd u) (n : Nat) : Wd (List.replicate n u).flatten := fun c h => by
  obtain ⟨l, h1, h2⟩ := List.mem_flatten.mp h
  rw [(List.mem_replicate.mp h1).2] at h2
  exact hu c h2
theorem rep_len (u : List Nat) (n : Nat) : (List.replicate n u).flatten.length = n * u.length := by
  rw [List.length_flatten, List.map_replicate, List.sum_replicate_nat]
theorem mul_str {u : List Nat} {n : Int} {k : Nat} (hk : n = k) (h1 : 1 ≤ k) (h2 : k ≤ 1000) (hu : u.length ≤ 10000) : mulD (.str u) (.int n) = some (.str (List.replicate k u).flatten) := by
  show (if n < 1 then (if in62 n = true then some (D.str []) else none) else if u.length * n.toNat ≤ szL ∧ n.toNat < 2147483648 then some (D.str (List.replicate n.toNat u).flatten) else none) = _
  have e : n.toNat = k := by omega
  rw [if_neg (by omega), e, if_pos]
  refine ⟨?_, by omega⟩
  have : u.length * k ≤ 10000 * 1000 := Nat.mul_le_mul hu h2
  show _ ≤ 16777216
  omega
section
variable {Φ Φf : Str → Option Fsem} {G : Str → Option D} {fuel : Nat}
theorem pow_ok [TS] {Fd Fn : Fsem} (ed : Φ "_law_draw" = some Fd) (hd : DrawOk Fd) (en : Φ "_law_near_text" = some Fn) (hn : NtOk Fn) {b : Int} {S : Sto} {n0 : Nat} {x1 x2 x3 x4 x5 x6 x7 : Option D} (h0 : DS b S) (hb : b ≤ 2 ^ 38) :
    ∃ u v S', exSs Φ Φf G fuel n0 pPow [some (.loc TS.T.length), x1, x2, x3, x4, x5, x6, x7] S = .ret (pd u v) S' false ∧ Rp u v ∧ DS (b + 1000) S' := by
  obtain ⟨r, S1, e1, r0, r1, h1⟩ := hd b 5 S h0 (by omega) (by omega) (by omega)
  obtain ⟨k, rfl⟩ := Int.eq_ofNat_of_zero_le r0
  have ek : (1 : Int) + (k : Int) = ((1 + k : Nat) : Int) := by omega
  obtain ⟨w, S2, e2, w1, w2, h2⟩ := hn (b + 1) (1 + k) S1 h1 (by omega) (by omega)
  obtain ⟨p, S3, e3, p0, p1, h3⟩ := hd (b + 1 + 500) 3 S2 h2 (by omega) (by omega) (by omega)
  obtain ⟨q, S4, e4, q0, q1, h4⟩ := hd (b + 1 + 500 + 1) 3 S3 h3 (by omega) (by omega) (by omega)
  obtain ⟨i, rfl⟩ := Int.eq_ofNat_of_zero_le p0
  obtain ⟨j, rfl⟩ := Int.eq_ofNat_of_zero_le q0
  have a := add_str (s := w) (t := [97]) (by show w.length + 1 ≤ 16777216; omega)
  have ww : Wd (w ++ [97]) := wd_app w1 (wdB_ok rfl)
  have wl : (w ++ [97]).length = w.length + 1 := by simp
  have m1 := mul_str (u := w ++ [97]) (n := 1 + (i : Int)) (k := 1 + i) (by omega) (by omega) (by omega) (by omega)
  have m2 := mul_str (u := w ++ [97]) (n := 1 + (j : Int)) (k := 1 + j) (by omega) (by omega) (by omega) (by omega)
  refine ⟨_, _, S4, ?_, ⟨wd_rep ww (1 + i), wd_rep ww (1 + j), ?_, ?_, ?_, ?_⟩, h4.mono (by omega)⟩
  · generalize w ++ [97] = W at *
    simp only [pPow, exSs, exS, ev, evs, List.getElem?_cons_zero, List.getElem?_cons_succ, ed, en, e1, bindA_ok, bind_ok, binD, vw_int, vw_str, add_int, lift_some, ek, e2, a, go_ok, setTg, then_next, List.set_cons_zero, List.set_cons_succ, e3, e4, m1, m2]
    simp [szL]
  all_goals rw [rep_len, wl]
  · have : 1 * 1 ≤ (1 + i) * (w.length + 1) := Nat.mul_le_mul (by omega) (by omega)
    omega
  · have : (1 + i) * (w.length + 1) ≤ 3 * 8 := Nat.mul_le_mul (by omega) (by omega)
    omega
  · have : 1 * 1 ≤ (1 + j) * (w.length + 1) := Nat.mul_le_mul (by omega) (by omega)
    omega
  · have : (1 + j) * (w.length + 1) ≤ 3 * 8 := Nat.mul_le_mul (by omega) (by omega)
    omega
theorem near_ok [TS] {Fd Fn : Fsem} (ed : Φ "_law_draw" = some Fd) (hd : DrawOk Fd) (en : Φ "_law_near_text" = some Fn) (hn : NtOk Fn) {b : Int} {S : Sto} {n0 : Nat} {x1 x2 x3 x4 x5 x6 x7 : Option D} (h0 : DS b S) (hb : b ≤ 2 ^ 38) :
    ∃ u v S', exSs Φ Φf G fuel n0 pNear [some (.loc TS.T.length), x1, x2, x3, x4, x5, x6, x7] S = .ret (pd u v) S' false ∧ Rp u v ∧ DS (b + 1002) S' := by
  obtain ⟨r, S1, e1, r0, r1, h1⟩ := hd b 6 S h0 (by omega) (by omega) (by omega)
  obtain ⟨k, rfl⟩ := Int.eq_ofNat_of_zero_le r0
  have ek : (1 : Int) + (k : Int) = ((1 + k : Nat) : Int) := by omega
  obtain ⟨w, S2, e2, w1, w2, h2⟩ := hn (b + 1) (1 + k) S1 h1 (by omega) (by omega)
  obtain ⟨p, S3, e3, p0, p1, h3⟩ := hd (b + 1 + 500) 6 S2 h2 (by omega) (by omega) (by omega)
  obtain ⟨i, rfl⟩ := Int.eq_ofNat_of_zero_le p0
  have ei : (1 : Int) + (i : Int) = ((1 + i : Nat) : Int) := by omega
  obtain ⟨z, S4, e4, z1, z2, h4⟩ := hn (b + 1 + 500 + 1) (1 + i) S3 h3 (by omega) (by omega)
  have a1 := add_str (s := w) (t := [98]) (by show w.length + 1 ≤ 16777216; omega)
  have a2 := add_str (s := z) (t := [97]) (by show z.length + 1 ≤ 16777216; omega)
  refine ⟨w ++ [98], z ++ [97], S4, ?_, ⟨wd_app w1 (wdB_ok rfl), wd_app z1 (wdB_ok rfl), by simp, by simp; omega, by simp, by simp; omega⟩, h4.mono (by omega)⟩
  simp only [pNear, exSs, exS, ev, evs, List.getElem?_cons_zero, List.getElem?_cons_succ, ed, en, e1, bindA_ok, bind_ok, binD, vw_int, vw_str, add_int, lift_some, ek, e2, a1, go_ok, e3, ei, e4, a2]
  simp [szL]
theorem any_ok [TS] {Fd Fl : Fsem} (ed : Φ "_law_draw" = some Fd) (hd : DrawOk Fd) (el : Φ "_law_letters" = some Fl) (hl : LtOk Fl) {b : Int} {S : Sto} {n0 : Nat} {x1 x2 x3 x4 x5 x6 x7 : Option D} (h0 : DS b S) (hb : b ≤ 2 ^ 38) :
    ∃ u v S', exS Φ Φf G fuel n0 pAny [some (.loc TS.T.length), x1, x2, x3, x4, x5, x6, x7] S = .ret (pd u v) S' false ∧ Rp u v ∧ DS (b + 12) S' := by
  obtain ⟨r, S1, e1, r0, r1, h1⟩ := hd b 5 S h0 (by omega) (by omega) (by omega)
  obtain ⟨k, rfl⟩ := Int.eq_ofNat_of_zero_le r0
  have ek : (1 : Int) + (k : Int) = ((1 + k : Nat) : Int) := by omega
  obtain ⟨w, S2, e2, w1, w2, h2⟩ := hl (b + 1) (1 + k) S1 h1 (by omega) (by omega)
  obtain ⟨p, S3, e3, p0, p1, h3⟩ := hd _ 5 S2 h2 (by omega) (by omega) (by omega)
  obtain ⟨i, rfl⟩ := Int.eq_ofNat_of_zero_le p0
  have ei : (1 : Int) + (i : Int) = ((1 + i : Nat) : Int) := by omega
  obtain ⟨z, S4, e4, z1, z2, h4⟩ := hl _ (1 + i) S3 h3 (by omega) (by omega)
  refine ⟨w, z, S4, ?_, ⟨w1, z1, by omega, by omega, by omega, by omega⟩, h4.mono (by omega)⟩
  simp only [pAny, exS, ev, evs, List.getElem?_cons_zero, List.getElem?_cons_succ, ed, el, e1, bindA_ok, bind_ok, binD, vw_int, vw_str, add_int, lift_some, ek, e2, go_ok, e3, ei, e4]
  simp [szL]
theorem bent_len {T c : List Nat} {s : Nat} (hT : T.length ≤ 60) (hc : c.length ≤ 1) (hs : s < 8) : (T.take s ++ c ++ T.drop (s + 1)).length ≤ 60 := by
  rw [List.length_append, List.length_append, List.length_take, List.length_drop]
  omega
theorem bent_ok [TS] {Fd Fo : Fsem} (ed : Φ "_law_draw" = some Fd) (hd : DrawOk Fd) (eo : Φ "_law_of" = some Fo) (ho : OfOk Fo) {b : Int} {S : Sto} {n0 : Nat} {x1 x2 x4 x5 x6 x7 : Option D} {A B : List Nat} (h0 : DS b S) (hb : b < 2 ^ 40) (wA : Wd A) (wB : Wd B) (lA : A.length ≤ 60) (lB : B.length ≤ 60) :
    ∃ A' B' y5 y6 y7 S', exSs Φ Φf G fuel n0 pBent [some (.loc TS.T.length), x1, x2, some (pd A B), x4, x5, x6, x7] S = .next [some (.loc TS.T.length), x1, x2, some (pd A' B'), x4, y5, y6, y7] S' ∧ Wd A' ∧ Wd B' ∧ A'.length ≤ 60 ∧ B'.length ≤ 60 ∧ DS (b + 3) S' := by
  have hz : szL = 16777216 := rfl
  obtain ⟨r, S1, e1, r0, r1, h1⟩ := hd b 2 S h0 (by omega) (by omega) (by omega)
  obtain ⟨p, S2, e2, p0, p1, h2⟩ := hd (b + 1) 8 S1 h1 (by omega) (by omega) (by omega)
  obtain ⟨s, rfl⟩ := Int.eq_ofNat_of_zero_le p0
  obtain ⟨x, S3, c1, c2, h3⟩ := ho.1 (b + 1 + 1) [.str [97], .str [98], .str []] S2 h2 (by omega) (by simp) (by simp) (by simp)
  obtain ⟨c, rfl, wc, lc⟩ : ∃ c : List Nat, x = .str c ∧ Wd c ∧ c.length ≤ 1 := by
    simp only [List.mem_cons, List.not_mem_nil, or_false] at c1
    rcases c1 with rfl | rfl | rfl
    · exact ⟨_, rfl, wdB_ok rfl, by simp⟩
    · exact ⟨_, rfl, wdB_ok rfl, by simp⟩
    · exact ⟨_, rfl, wdB_ok rfl, by simp⟩
  have main : ∀ T : List Nat, T.length ≤ 60 → slD (.str T) none (some (s : Int)) = some (.str (T.take s)) ∧ slD (.str T) (some ((s : Int) + 1)) none = some (.str (T.drop (s + 1))) ∧ addD (.str (T.take s)) (.str c) = some (.str (T.take s ++ c)) ∧ addD (.str (T.take s ++ c)) (.str (T.drop (s + 1))) = some (.str (T.take s ++ c ++ T.drop (s + 1))) := by
    intro T hT
    have l := bent_len (T := T) (c := c) (s := s) hT lc (by omega)
    rw [List.length_append] at l
    have l2 := l
    rw [List.length_append] at l2
    exact ⟨sl_to (by omega) rfl, sl_from (by omega) (by omega), add_str (by omega), add_str (by omega)⟩
  have hr : r = 0 ∨ r = 1 := by omega
  rcases hr with rfl | rfl
  · obtain ⟨m1, m2, m3, m4⟩ := main A lA
    have wn : Wd (A.take s ++ c ++ A.drop (s + 1)) := wd_app (wd_app (wd_take wA _) wc) (wd_drop wA _)
    have ln := bent_len (T := A) (c := c) (s := s) lA lc (by omega)
    refine ⟨A.take s ++ c ++ A.drop (s + 1), B, some (.str (A.take s ++ c ++ A.drop (s + 1))), some (.int 0), some (.int s), S3, ?_, wn, wB, ln, lB, h3.mono (by omega)⟩
    generalize A.take s ++ c ++ A.drop (s + 1) = N at *
    simp [pBent, ed, eo, e1, e2, c2, hz, m1, m2, m3, m4]
  · obtain ⟨m1, m2, m3, m4⟩ := main B lB
    have wn : Wd (B.take s ++ c ++ B.drop (s + 1)) := wd_app (wd_app (wd_take wB _) wc) (wd_drop wB _)
    have ln := bent_len (T := B) (c := c) (s := s) lB lc (by omega)
    refine ⟨A, B.take s ++ c ++ B.drop (s + 1), some (.str (B.take s ++ c ++ B.drop (s + 1))), some (.int 1), some (.int s), S3, ?_, wA, wn, lA, ln, h3.mono (by omega)⟩
    generalize B.take s ++ c ++ B.drop (s + 1) = N at *
    simp [pBent, ed, eo, e1, e2, c2, hz, m1, m2, m3, m4]
theorem ne_str {s t : List Nat} : cmpD .NotEq (.str s) (.str t) = some (.bl (!decide (s = t))) := rfl
theorem ret_ok {S : Sto} {n0 : Nat} {x0 x1 x2 x4 x5 x6 x7 : Option D} {A B : List Nat} (wA : Wd A) (wB : Wd B) (lA : A.length ≤ 60) (lB : B.length ≤ 60) :
    ∃ u v, exS Φ Φf G fuel n0 (.ret (.ite (.and (.cmp .NotEq (.idx (.var 3) (.con (.int 0))) (.con (.str []))) (.cmp .NotEq (.idx (.var 3) (.con (.int 1))) (.con (.str [])))) (.var 3) (.tup [.con (.str [97, 98]), .con (.str [97])]))) [x0, x1, x2, some (pd A B), x4, x5, x6, x7] S = .ret (pd u v) S false ∧ Rp u v := by
  have r0 : Rp [97, 98] [97] := ⟨wdB_ok rfl, wdB_ok rfl, by decide, by decide, by decide, by decide⟩
  by_cases hA : A = []
  · refine ⟨[97, 98], [97], ?_, r0⟩
    simp [ne_str, hA, szL]
  · by_cases hB : B = []
    · refine ⟨[97, 98], [97], ?_, r0⟩
      simp [ne_str, hA, hB, szL]
    · refine ⟨A, B, ?_, ⟨wA, wB, List.length_pos_iff.mpr hA, lA, List.length_pos_iff.mpr hB, lB⟩⟩
      simp [ne_str, hA, hB]
theorem told_ok [TS] {Fd Fo Ft Fn : Fsem} (ed : Φ "_law_draw" = some Fd) (hd : DrawOk Fd) (eo : Φ "_law_of" = some Fo) (ho : OfOk Fo) (et : Φ "_law_told" = some Ft) (ht : ToOk Ft) (en : Φ "_law_names" = some Fn) (hn : LnmOk Fn) {b : Int} {S : Sto} {n0 most : Nat} {w : Int} {x3 x4 x5 x6 x7 : Option D} (h0 : DS b S) (hb : b ≤ 2 ^ 38) (hm : most ≤ 16) :
    ∃ u v S', exSs Φ Φf G fuel n0 pTold [some (.loc TS.T.length), some (.int most), some (.int w), x3, x4, x5, x6, x7] S = .ret (pd u v) S' false ∧ Rp u v ∧ DS (b + 30) S' := by
  obtain ⟨ns, S1, e1, n1, l1, l2, h1⟩ := hn b most S h0 (by omega) hm
  have t := ht ns S1 (by omega)
  obtain ⟨w1, w2, _, _⟩ := told_wd ns
  have s1 : exS Φ Φf G fuel n0 (.set (.one 3) (.call "_law_told" [.call "_law_names" [.var 0, .var 1]])) [some (.loc TS.T.length), some (.int most), some (.int w), x3, x4, x5, x6, x7] S = .next [some (.loc TS.T.length), some (.int most), some (.int w), some (pd (toldW ns).1 (toldW ns).2), x4, x5, x6, x7] S1 := by
    simp [et, en, e1, t]
  unfold pTold
  by_cases c : w = 2
  · obtain ⟨A, B, y5, y6, y7, S2, e2, q1, q2, q3, q4, h2⟩ := bent_ok (Φf := Φf) (G := G) (fuel := fuel) (n0 := n0) (x1 := some (.int most)) (x2 := some (.int w)) (x4 := x4) (x5 := x5) (x6 := x6) (x7 := x7) ed hd eo ho h1 (by omega) w1 w2 l1 l2
    obtain ⟨u, v, e3, r⟩ := ret_ok (Φ := Φ) (Φf := Φf) (G := G) (fuel := fuel) (S := S2) (n0 := n0) (x0 := some (.loc TS.T.length)) (x1 := some (.int most)) (x2 := some (.int w)) (x4 := x4) (x5 := y5) (x6 := y6) (x7 := y7) q1 q2 q3 q4
    refine ⟨u, v, S2, ?_, r, h2.mono (by omega)⟩
    have s2 : exS Φ Φf G fuel n0 (.ite (.cmp .Eq (.var 2) (.con (.int 2))) pBent []) [some (.loc TS.T.length), some (.int most), some (.int w), some (pd (toldW ns).1 (toldW ns).2), x4, x5, x6, x7] S1 = .next [some (.loc TS.T.length), some (.int most), some (.int w), some (pd A B), x4, y5, y6, y7] S2 := by
      rw [← e2]
      simp only [exS, ev, List.getElem?_cons_zero, List.getElem?_cons_succ, bind_ok, vw_int, cmp_eqI, lift_some, go_ok, c, decide_true]
    rw [exSs, s1, then_next, exSs, s2, then_next, exSs, e3, then_ret]
  · obtain ⟨u, v, e3, r⟩ := ret_ok (Φ := Φ) (Φf := Φf) (G := G) (fuel := fuel) (S := S1) (n0 := n0) (x0 := some (.loc TS.T.length)) (x1 := some (.int most)) (x2 := some (.int w)) (x4 := x4) (x5 := x5) (x6 := x6) (x7 := x7) w1 w2 l1 l2
    refine ⟨u, v, S1, ?_, r, h1.mono (by omega)⟩
    have s2 : exS Φ Φf G fuel n0 (.ite (.cmp .Eq (.var 2) (.con (.int 2))) pBent []) [some (.loc TS.T.length), some (.int most), some (.int w), some (pd (toldW ns).1 (toldW ns).2), x4, x5, x6, x7] S1 = .next [some (.loc TS.T.length), some (.int most), some (.int w), some (pd (toldW ns).1 (toldW ns).2), x4, x5, x6, x7] S1 := by
      simp only [exS, ev, List.getElem?_cons_zero, List.getElem?_cons_succ, bind_ok, vw_int, cmp_eqI, lift_some, go_ok, decide_eq_false c, exSs]
    rw [exSs, s1, then_next, exSs, s2, then_next, exSs, e3, then_ret]
theorem lpOk [TS] {Fd Fo Ft Fm Fn Fl : Fsem} (ed : Φ "_law_draw" = some Fd) (hd : DrawOk Fd) (eo : Φ "_law_of" = some Fo) (ho : OfOk Fo) (et : Φ "_law_told" = some Ft) (ht : ToOk Ft) (em : Φ "_law_names" = some Fm) (hm : LnmOk Fm) (en : Φ "_law_near_text" = some Fn) (hn : NtOk Fn) (el : Φ "_law_letters" = some Fl) (hl : LtOk Fl) : LpOk (fsem Φ Φf G fuel 2 8 bPair) := by
  intro b most S h0 hb hmo
  have t0 := take1 h0
  obtain ⟨w, S1, e1, r0, r1, h1⟩ := hd b 6 S h0 (by omega) (by omega) (by omega)
  have s1 : exS Φ Φf G fuel (TS.n) (.set (.one 2) (.call "_law_draw" [.var 0, .con (.int 6)])) [some (.loc TS.T.length), some (.int most), none, none, none, none, none, none] S = .next [some (.loc TS.T.length), some (.int most), some (.int w), none, none, none, none, none] S1 := by
    simp [ed, e1]
  have main : ∃ u v S', exSs Φ Φf G fuel (TS.n) bPair [some (.loc TS.T.length), some (.int most), none, none, none, none, none, none] S = .ret (pd u v) S' false ∧ Rp u v ∧ DS (b + 1100) S' := by
    unfold bPair
    rw [exSs, s1, then_next]
    by_cases c1 : w < 3
    · obtain ⟨u, v, S', e, r, h⟩ := told_ok (Φf := Φf) (G := G) (fuel := fuel) (n0 := TS.n) (w := w) (x3 := none) (x4 := none) (x5 := none) (x6 := none) (x7 := none) ed hd eo ho et ht em hm h1 (by omega) hmo
      refine ⟨u, v, S', ?_, r, h.mono (by omega)⟩
      simp only [exSs, exS, ev, List.getElem?_cons_zero, List.getElem?_cons_succ, bind_ok, vw_int, cmp_lt, lift_some, go_ok, decide_eq_true c1]
      rw [e]; rfl
    · by_cases c2 : w = 3
      · obtain ⟨u, v, S', e, r, h⟩ := pow_ok (Φf := Φf) (G := G) (fuel := fuel) (n0 := TS.n) (x1 := some (.int most)) (x2 := some (.int w)) (x3 := none) (x4 := none) (x5 := none) (x6 := none) (x7 := none) ed hd en hn h1 (by omega)
        refine ⟨u, v, S', ?_, r, h.mono (by omega)⟩
        simp only [exSs, exS, ev, List.getElem?_cons_zero, List.getElem?_cons_succ, bind_ok, vw_int, cmp_lt, cmp_eqI, lift_some, go_ok, decide_eq_false c1, decide_eq_true c2, then_next]
        rw [e]; rfl
      · by_cases c3 : w = 4
        · obtain ⟨u, v, S', e, r, h⟩ := near_ok (Φf := Φf) (G := G) (fuel := fuel) (n0 := TS.n) (x1 := some (.int most)) (x2 := some (.int w)) (x3 := none) (x4 := none) (x5 := none) (x6 := none) (x7 := none) ed hd en hn h1 (by omega)
          refine ⟨u, v, S', ?_, r, h.mono (by omega)⟩
          simp only [exSs, exS, ev, List.getElem?_cons_zero, List.getElem?_cons_succ, bind_ok, vw_int, cmp_lt, cmp_eqI, lift_some, go_ok, decide_eq_false c1, decide_eq_false c2, decide_eq_true c3, then_next]
          rw [e]; rfl
        · obtain ⟨u, v, S', e, r, h⟩ := any_ok (Φf := Φf) (G := G) (fuel := fuel) (n0 := TS.n) (x1 := some (.int most)) (x2 := some (.int w)) (x3 := none) (x4 := none) (x5 := none) (x6 := none) (x7 := none) ed hd el hl h1 (by omega)
          refine ⟨u, v, S', ?_, r, h.mono (by omega)⟩
          simp only [exSs, exS, ev, List.getElem?_cons_zero, List.getElem?_cons_succ, bind_ok, vw_int, cmp_lt, cmp_eqI, lift_some, go_ok, decide_eq_false c1, decide_eq_false c2, decide_eq_false c3, then_next]
          rw [e]; rfl
  obtain ⟨u, v, S', e, r, h⟩ := main
  have t := take1 h
  refine ⟨u, v, S', ?_, r, h⟩
  unfold fsem
  rw [if_pos (show [D.loc TS.T.length, D.int (most : Int)].length = 2 from rfl), t0.2]
  have g : gam0 8 [D.loc TS.T.length, .int (most : Int)] = [some (.loc TS.T.length), some (.int most), none, none, none, none, none, none] := rfl
  rw [g, e, outR_ret, t.1]
  rfl
end
end EK

set_option Elab.async false
set_option linter.all false
set_option maxRecDepth 100000
set_option maxHeartbeats 4000000
namespace EK
open PySem L2 PySem.Spec PyProof.Rows
/-! ### data that is compared and told -/
mutual
/-- data of at most n levels, its texts of plain signs, its ints not too long -/
def okD : Nat → D → Bool
  | _, .non => true
  | _, .bl _ => true
  | _, .int i => decide (i.natAbs < 10 ^ 180)
  | _, .str s => s.all fun c => decide (c < 128)
  | 0, .tup xs => xs.isEmpty
  | n + 1, .tup xs => okA n xs
  | 0, .lst xs => xs.isEmpty
  | n + 1, .lst xs => okA n xs
  | _, _ => false
def okA : Nat → List D → Bool
  | _, [] => true
  | n, x :: xs => okD n x && okA n xs
end
mutual
def wtD : D → Nat
  | .int _ => 600
  | .str s => s.length
  | .tup xs => wtA xs
  | .lst xs => wtA xs
  | _ => 0
def wtA : List D → Nat
  | [] => 0
  | x :: xs => wtD x + 1 + wtA xs
end
theorem okI_log {i : Int} (h : i.natAbs < 10 ^ 180) : i.natAbs.log2 < 600 := by
  by_cases z : i.natAbs = 0
  · rw [z]; decide
  · rw [Nat.log2_lt z]
    exact Nat.lt_trans h (by decide +kernel)
theorem okI_len {i : Int} (h : i.natAbs < 10 ^ 180) : (PyData.shown (.int i)).length ≤ 200 := by
  have e := int_text_length_le10 (k := 180) (by decide) h
  show (Str.ofString (toString i)).length ≤ 200
  rw [PySem.ofString_length]
  exact Nat.le_trans e (by decide)
structure Ok1 (n : Nat) (d : D) (p : PyData) : Prop where
  e : py d = some p
  lay : p.canLay0 = true
  dep : p.depth ≤ n + 1
  sh : p.showable = true
  lv : p.leavesShort 200 = true
  wt : p.weight ≤ wtD d
structure OkL (n : Nat) (ds : List D) (ps : List PyData) : Prop where
  e : pyA ds = some ps
  lay : PyData.canLayAll0 ps = true
  dep : PyData.depthAll ps ≤ n + 1
  sh : PyData.showableAll ps = true
  lv : PyData.leavesShortAll 200 ps = true
  wt : PyData.weightAll ps ≤ wtA ds
mutual
theorem ok1 : ∀ {n : Nat} {d : D}, okD n d = true → ∃ p, Ok1 n d p
  | n, .non, _ => ⟨.none, rfl, rfl, by simp [PyData.depth], rfl, rfl, by simp [PyData.weight]⟩
  | n, .bl b, _ => ⟨.bool b, rfl, rfl, by simp [PyData.depth], rfl, rfl, by simp [PyData.weight]⟩
  | n, .int i, h => by
    have h : i.natAbs < 10 ^ 180 := by cases n <;> exact of_decide_eq_true h
    have hl := okI_log h
    refine ⟨.int i, rfl, rfl, by simp [PyData.depth], ?_, ?_, ?_⟩
    · show decide (i.natAbs.log2 < 1920) = true
      rw [decide_eq_true_iff]; omega
    · show decide ((PyData.shown (.int i)).length ≤ 200) = true
      rw [decide_eq_true_iff]; exact okI_len h
    · show (if i == 0 then 0 else i.natAbs.log2 + 1) ≤ 600
      split <;> omega
  | n, .str s, h => by
    have h : s.all (fun c => decide (c < 128)) = true := by cases n <;> exact h
    have h2 : ∀ c ∈ s, c < 128 := fun c hc => of_decide_eq_true (List.all_eq_true.mp h c hc)
    refine ⟨.str ⟨s.toArray⟩, rfl, ?_, by simp [PyData.depth], rfl, ?_, ?_⟩
    · show (s.toArray.all fun c => decide (c < 0x110000)) = true
      rw [List.all_toArray, List.all_eq_true]
      intro c hc
      have := h2 c hc
      rw [decide_eq_true_iff]; omega
    · show (s.toArray.toList.all fun c => decide (c < 16 ^ 8)) = true
      rw [List.all_eq_true]
      intro c hc
      have := h2 c (by simpa using hc)
      rw [decide_eq_true_iff]
      exact Nat.lt_trans this (by decide)
    · show s.toArray.size ≤ s.length
      simp
  | 0, .tup xs, h => by
    have h : xs.isEmpty = true := h
    rw [List.isEmpty_iff] at h
    subst h
    exact ⟨.tuple [], rfl, rfl, by simp [PyData.depth, PyData.depthAll], rfl, rfl, by simp [PyData.weight, PyData.weightAll]⟩
  | 0, .lst xs, h => by
    have h : xs.isEmpty = true := h
    rw [List.isEmpty_iff] at h
    subst h
    exact ⟨.list [], rfl, rfl, by simp [PyData.depth, PyData.depthAll], rfl, rfl, by simp [PyData.weight, PyData.weightAll]⟩
  | n + 1, .tup xs, h => by
    obtain ⟨ps, o⟩ := okL (n := n) (ds := xs) h
    refine ⟨.tuple ps, ?_, ?_, ?_, ?_, ?_, ?_⟩
    · rw [py, o.e]; rfl
    · rw [PyData.canLay0]; exact o.lay
    · rw [PyData.depth]; have := o.dep; omega
    · rw [PyData.showable]; exact o.sh
    · rw [PyData.leavesShort]; exact o.lv
    · rw [PyData.weight, wtD]; exact o.wt
  | n + 1, .lst xs, h => by
    obtain ⟨ps, o⟩ := okL (n := n) (ds := xs) h
    refine ⟨.list ps, ?_, ?_, ?_, ?_, ?_, ?_⟩
    · rw [py, o.e]; rfl
    · rw [PyData.canLay0]; exact o.lay
    · rw [PyData.depth]; have := o.dep; omega
    · rw [PyData.showable]; exact o.sh
    · rw [PyData.leavesShort]; exact o.lv
    · rw [PyData.weight, wtD]; exact o.wt
  | 0, .dic _, h => by cases h
  | _ + 1, .dic _, h => by cases h
  | 0, .fn _, h => by cases h
  | _ + 1, .fn _, h => by cases h
  | 0, .loc _, h => by cases h
  | _ + 1, .loc _, h => by cases h
  | 0, .frz _, h => by cases h
  | _ + 1, .frz _, h => by cases h
  | 0, .exc _ _, h => by cases h
  | _ + 1, .exc _ _, h => by cases h
  | 0, .opq, h => by cases h
  | _ + 1, .opq, h => by cases h
  | 0, .adr _, h => by cases h
  | _ + 1, .adr _, h => by cases h
theorem okL : ∀ {n : Nat} {ds : List D}, okA n ds = true → ∃ ps, OkL n ds ps
  | n, [], _ => ⟨[], rfl, rfl, by simp [PyData.depthAll], rfl, rfl, by simp [PyData.weightAll]⟩
  | n, d :: ds, h => by
    rw [okA, Bool.and_eq_true] at h
    obtain ⟨p, o⟩ := ok1 h.1
    obtain ⟨ps, q⟩ := okL h.2
    refine ⟨p :: ps, ?_, ?_, ?_, ?_, ?_, ?_⟩
    · rw [pyA, o.e, q.e]
    · rw [PyData.canLayAll0, o.lay, q.lay]; rfl
    · rw [PyData.depthAll]; have := o.dep; have := q.dep; omega
    · rw [PyData.showableAll, o.sh, q.sh]; rfl
    · rw [PyData.leavesShortAll, o.lv, q.lv]; rfl
    · rw [PyData.weightAll, wtA]; have := o.wt; have := q.wt; omega
end
/-- the text of data -/
def rpT (d : D) : List Nat := match py d with
  | some p => shownL p
  | none => []
theorem rp_ok {n : Nat} {d : D} (h : okD n d = true) (hn : n ≤ 50) (hw : wtD d ≤ 70000) : reprD [d] = some (.str (rpT d)) := by
  obtain ⟨p, o⟩ := ok1 h
  have hs := PyData.shown_le 200 (by decide) p o.lv
  have hl : (shownL p).length = p.shown.length := by unfold shownL; simp [Str.length]
  have e2 : rpT d = shownL p := by unfold rpT; rw [o.e]
  rw [e2]
  show (match pyW d with | some p => if PyData.showable p = true ∧ dep60 p = true ∧ (shownL p).length ≤ szL then some (D.str (shownL p)) else none | none => none) = _
  rw [pyW_of o.e]
  dsimp only
  rw [if_pos]
  refine ⟨o.sh, ?_, ?_⟩
  · exact Nat.ble_eq_true_of_le (Nat.le_trans o.dep (by omega))
  · rw [hl]
    have := o.wt
    show _ ≤ 16777216
    have : (200 + 2) * p.weight ≤ 202 * 70000 := Nat.mul_le_mul_left _ (by omega)
    omega
theorem eq_ok {n : Nat} {d : D} (h : okD n d = true) (hn : n ≤ 50) : eqB d d = some true := by
  obtain ⟨p, o⟩ := ok1 h
  have sh : SeqAt.shaped p = true := by
    unfold SeqAt.shaped
    rw [Bool.and_eq_true, decide_eq_true_iff]
    exact ⟨o.lay, Nat.le_trans o.dep (by omega)⟩
  cases d with
  | int i => show some (decide (i = i)) = _; simp
  | str s => show some (decide (s = s)) = _; simp
  | bl b => show some (decide (b = b)) = _; simp
  | non => rfl
  | tup xs =>
    show (match py (.tup xs), py (.tup xs) with | some p, some q => if SeqAt.shaped p = true ∧ SeqAt.shaped q = true then some (PyData.eqv p q) else none | _, _ => none) = _
    rw [o.e]
    dsimp only
    rw [if_pos ⟨sh, sh⟩, PySem.SeqAt.eqv_refl p o.lay]
  | lst xs =>
    show (match py (.lst xs), py (.lst xs) with | some p, some q => if SeqAt.shaped p = true ∧ SeqAt.shaped q = true then some (PyData.eqv p q) else none | _, _ => none) = _
    rw [o.e]
    dsimp only
    rw [if_pos ⟨sh, sh⟩, PySem.SeqAt.eqv_refl p o.lay]
  | _ => cases n <;> cases h
theorem ceq_ok {n : Nat} {d : D} (h : okD n d = true) (hn : n ≤ 50) : cmpD .Eq d d = some (.bl true) := by
  show (eqB d d).map _ = _
  rw [eq_ok h hn]; rfl
theorem cne_ok {n : Nat} {d : D} (h : okD n d = true) (hn : n ≤ 50) : cmpD .NotEq d d = some (.bl false) := by
  show (eqB d d).map _ = _
  rw [eq_ok h hn]; rfl
theorem okD_str {n : Nat} {w : List Nat} (h : Wd w) : okD n (.str w) = true := by
  have : (w.all fun c => decide (c < 128)) = true := by
    rw [List.all_eq_true]
    intro c hc
    rw [decide_eq_true_iff]
    rcases h c hc with rfl | rfl <;> omega
  cases n <;> exact this
theorem okD_pd {n : Nat} {u v : List Nat} (hu : Wd u) (hv : Wd v) : okD (n + 1) (pd u v) = true := by
  show (okD n (.str u) && (okD n (.str v) && true)) = true
  rw [okD_str hu, okD_str hv]; rfl
theorem addL {xs ys : List D} (h : xs.length + ys.length ≤ szL) : addD (.lst xs) (.lst ys) = some (.lst (xs ++ ys)) := by
  show (if xs.length + ys.length ≤ szL then some (D.lst (xs ++ ys)) else none) = _
  rw [if_pos h]
end EK

set_option Elab.async false
set_option linter.all false
set_option maxRecDepth 100000
set_option maxHeartbeats 4000000
namespace EK
open PySem L2 PySem.Spec PyProof.Rows
/-! ### == of data is equality, where no bool is among it -/
mutual
def noB : D → Bool
  | .non => true
  | .int _ => true
  | .str _ => true
  | .tup xs => noBA xs
  | .lst xs => noBA xs
  | _ => false
def noBA : List D → Bool
  | [] => true
  | x :: xs => noB x && noBA xs
end
mutual
theorem eqv_iff : ∀ {d e : D} {p q : PyData}, py d = some p → py e = some q → noB d = true → noB e = true → (PyData.eqv p q = true ↔ d = e)
  | .non, e, p, q, h1, h2, b1, b2 => by
    cases h1
    cases e with
    | non => cases h2; simp [PyData.eqv]
    | int j => cases h2; simp [PyData.eqv]
    | str j => cases h2; simp [PyData.eqv]
    | tup ys => rw [py] at h2; cases e2 : pyA ys with | none => rw [e2] at h2; cases h2 | some qs => rw [e2] at h2; cases h2; simp [PyData.eqv]
    | lst ys => rw [py] at h2; cases e2 : pyA ys with | none => rw [e2] at h2; cases h2 | some qs => rw [e2] at h2; cases h2; simp [PyData.eqv]
    | _ => cases b2
  | .int i, e, p, q, h1, h2, b1, b2 => by
    cases h1
    cases e with
    | non => cases h2; simp [PyData.eqv]
    | int j => cases h2; simp [PyData.eqv]
    | str j => cases h2; simp [PyData.eqv]
    | tup ys => rw [py] at h2; cases e2 : pyA ys with | none => rw [e2] at h2; cases h2 | some qs => rw [e2] at h2; cases h2; simp [PyData.eqv]
    | lst ys => rw [py] at h2; cases e2 : pyA ys with | none => rw [e2] at h2; cases h2 | some qs => rw [e2] at h2; cases h2; simp [PyData.eqv]
    | _ => cases b2
  | .str s, e, p, q, h1, h2, b1, b2 => by
    cases h1
    cases e with
    | non => cases h2; simp [PyData.eqv]
    | int j => cases h2; simp [PyData.eqv]
    | str t =>
      cases h2
      rw [PyData.eqv, beq_iff_eq]
      constructor
      · intro h
        injection h with h
        rw [show s = t by simpa using congrArg Array.toList h]
      · intro h; cases h; rfl
    | tup ys => rw [py] at h2; cases e2 : pyA ys with | none => rw [e2] at h2; cases h2 | some qs => rw [e2] at h2; cases h2; simp [PyData.eqv]
    | lst ys => rw [py] at h2; cases e2 : pyA ys with | none => rw [e2] at h2; cases h2 | some qs => rw [e2] at h2; cases h2; simp [PyData.eqv]
    | _ => cases b2
  | .tup xs, e, p, q, h1, h2, b1, b2 => by
    rw [py] at h1
    cases e1 : pyA xs with
    | none => rw [e1] at h1; cases h1
    | some ps =>
    rw [e1] at h1
    cases h1
    cases e with
    | non => cases h2; simp [PyData.eqv]
    | int j => cases h2; simp [PyData.eqv]
    | str j => cases h2; simp [PyData.eqv]
    | tup ys =>
      rw [py] at h2
      cases e2 : pyA ys with
      | none => rw [e2] at h2; cases h2
      | some qs =>
        rw [e2] at h2; cases h2
        rw [noB] at b1 b2
        have := eqvA_iff e1 e2 b1 b2
        rw [PyData.eqv, this]
        constructor
        · intro h; rw [h]
        · intro h; cases h; rfl
    | lst ys => rw [py] at h2; cases e2 : pyA ys with | none => rw [e2] at h2; cases h2 | some qs => rw [e2] at h2; cases h2; simp [PyData.eqv]
    | _ => cases b2
  | .lst xs, e, p, q, h1, h2, b1, b2 => by
    rw [py] at h1
    cases e1 : pyA xs with
    | none => rw [e1] at h1; cases h1
    | some ps =>
    rw [e1] at h1
    cases h1
    cases e with
    | non => cases h2; simp [PyData.eqv]
    | int j => cases h2; simp [PyData.eqv]
    | str j => cases h2; simp [PyData.eqv]
    | lst ys =>
      rw [py] at h2
      cases e2 : pyA ys with
      | none => rw [e2] at h2; cases h2
      | some qs =>
        rw [e2] at h2; cases h2
        rw [noB] at b1 b2
        have := eqvA_iff e1 e2 b1 b2
        rw [PyData.eqv, this]
        constructor
        · intro h; rw [h]
        · intro h; cases h; rfl
    | tup ys => rw [py] at h2; cases e2 : pyA ys with | none => rw [e2] at h2; cases h2 | some qs => rw [e2] at h2; cases h2; simp [PyData.eqv]
    | _ => cases b2
  | .bl _, e, p, q, h1, h2, b1, b2 => by cases b1
  | .dic _, e, p, q, h1, h2, b1, b2 => by cases b1
  | .fn _, e, p, q, h1, h2, b1, b2 => by cases b1
  | .loc _, e, p, q, h1, h2, b1, b2 => by cases b1
  | .frz _, e, p, q, h1, h2, b1, b2 => by cases b1
theorem eqvA_iff : ∀ {ds es : List D} {ps qs : List PyData}, pyA ds = some ps → pyA es = some qs → noBA ds = true → noBA es = true → (PyData.eqvAll ps qs = true ↔ ds = es)
  | [], [], ps, qs, h1, h2, _, _ => by cases h1; cases h2; simp [PyData.eqvAll]
  | [], y :: ys, ps, qs, h1, h2, _, _ => by
    cases h1
    rw [pyA] at h2
    split at h2
    · cases h2; simp [PyData.eqvAll]
    · cases h2
  | x :: xs, [], ps, qs, h1, h2, _, _ => by
    cases h2
    rw [pyA] at h1
    split at h1
    · cases h1; simp [PyData.eqvAll]
    · cases h1
  | x :: xs, y :: ys, ps, qs, h1, h2, b1, b2 => by
    rw [pyA] at h1 h2
    rw [noBA, Bool.and_eq_true] at b1 b2
    split at h1
    · rename_i p ps' k1 k2
      split at h2
      · rename_i q qs' k3 k4
        cases h1; cases h2
        rw [PyData.eqvAll, Bool.and_eq_true, eqv_iff k1 k3 b1.1 b2.1, eqvA_iff k2 k4 b1.2 b2.2]
        constructor
        · rintro ⟨rfl, rfl⟩; rfl
        · intro h; cases h; exact ⟨rfl, rfl⟩
      · cases h2
    · cases h1
end
theorem ne_ok {n m : Nat} {d e : D} (hd : okD n d = true) (he : okD m e = true) (hn : n ≤ 50) (hm : m ≤ 50) (bd : noB d = true) (be : noB e = true) (h : d ≠ e) : eqB d e = some false := by
  obtain ⟨p, o⟩ := ok1 hd
  obtain ⟨q, o'⟩ := ok1 he
  have sh : SeqAt.shaped p = true := by
    unfold SeqAt.shaped
    rw [Bool.and_eq_true, decide_eq_true_iff]
    exact ⟨o.lay, Nat.le_trans o.dep (by omega)⟩
  have sh' : SeqAt.shaped q = true := by
    unfold SeqAt.shaped
    rw [Bool.and_eq_true, decide_eq_true_iff]
    exact ⟨o'.lay, Nat.le_trans o'.dep (by omega)⟩
  have key : PyData.eqv p q = false := Bool.eq_false_iff.mpr fun z => h ((eqv_iff o.e o'.e bd be).mp z)
  have fb : (match py d, py e with | some p, some q => if SeqAt.shaped p = true ∧ SeqAt.shaped q = true then some (PyData.eqv p q) else none | _, _ => none) = some false := by
    rw [o.e, o'.e]
    dsimp only
    rw [if_pos ⟨sh, sh'⟩, key]
  cases d with
  | non => cases e with
    | non => exact absurd rfl h
    | int _ => exact fb
    | str _ => exact fb
    | tup _ => exact fb
    | lst _ => exact fb
    | _ => cases be
  | int i => cases e with
    | int j => show some (decide (i = j)) = _; rw [decide_eq_false fun z => h (by rw [z])]
    | non => exact fb
    | str _ => exact fb
    | tup _ => exact fb
    | lst _ => exact fb
    | _ => cases be
  | str s => cases e with
    | str t => show some (decide (s = t)) = _; rw [decide_eq_false fun z => h (by rw [z])]
    | int _ => exact fb
    | non => exact fb
    | tup _ => exact fb
    | lst _ => exact fb
    | _ => cases be
  | tup xs => cases e with
    | non => exact fb
    | int _ => exact fb
    | str _ => exact fb
    | tup _ => exact fb
    | lst _ => exact fb
    | _ => cases be
  | lst xs => cases e with
    | non => exact fb
    | int _ => exact fb
    | str _ => exact fb
    | tup _ => exact fb
    | lst _ => exact fb
    | _ => cases be
  | _ => cases bd
theorem ceq_no {n m : Nat} {d e : D} (hd : okD n d = true) (he : okD m e = true) (hn : n ≤ 50) (hm : m ≤ 50) (bd : noB d = true) (be : noB e = true) (h : d ≠ e) : cmpD .Eq d e = some (.bl false) := by
  show (eqB d e).map _ = _
  rw [ne_ok hd he hn hm bd be h]; rfl
theorem cne_no {n m : Nat} {d e : D} (hd : okD n d = true) (he : okD m e = true) (hn : n ≤ 50) (hm : m ≤ 50) (bd : noB d = true) (be : noB e = true) (h : d ≠ e) : cmpD .NotEq d e = some (.bl true) := by
  show (eqB d e).map _ = _
  rw [ne_ok hd he hn hm bd be h]; rfl
theorem noB_pd {u v : List Nat} : noB (pd u v) = true := rfl
theorem cne_pd {u v x y : List Nat} (hu : Wd u) (hv : Wd v) (hx : Wd x) (hy : Wd y) : cmpD .NotEq (pd u v) (pd x y) = some (.bl (!decide (u = x ∧ v = y))) := by
  by_cases h : u = x ∧ v = y
  · rw [h.1, h.2, cne_ok (okD_pd (n := 0) hx hy) (by omega)]; simp
  · rw [cne_no (okD_pd (n := 0) hu hv) (okD_pd (n := 0) hx hy) (by omega) (by omega) rfl rfl, decide_eq_false h]
    · rfl
    · intro z; injection z with z; simp at z; exact h z
theorem cne_pd0 {u v : List Nat} (hu : Wd u) (hv : Wd v) : cmpD .NotEq (pd u v) (.tup []) = some (.bl true) :=
  cne_no (okD_pd (n := 0) hu hv) (n := 1) (m := 0) rfl (by omega) (by omega) rfl rfl (by intro z; injection z with z; cases z)
end EK

set_option Elab.async false
set_option linter.all false
set_option maxRecDepth 100000
set_option maxHeartbeats 4000000
namespace EK
open PySem L2 PySem.Spec PyProof.Rows
/-! ### k01: the errors -/
section
variable {Φ Φf : Str → Option Fsem} {G : Str → Option D} {fuel : Nat}
def clsE : List (Nat × Str) := [(0, "BadWord"), (1, "BadReplacement"), (2, "BadRow"), (3, "BadNumber"), (4, "BadName"), (5, "BadSurd"), (6, "BadLine"), (7, "BadPaper"), (8, "BadText"), (9, "TooLong"), (10, "Nothing")]
/-- the classes stand in the module -/
def GoE (G : Str → Option D) : Prop := G "EvenError" = some (.fn "EvenError") ∧ ∀ p ∈ clsE, G p.2 = some (.fn p.2)
def entE (x : D) (p : Nat × Str) : D := .tup [.int p.1, .exc p.2 [x], .exc p.2 [x]]
def eEnt (n : Nat) (c f : Str) : CE := .tup [.con (.int n), .mk c (.var 0), .mkk c f (.var 0)]
def bMade : List CS := [.set (.one 1) (.lst [eEnt 0 "BadWord" "value", eEnt 1 "BadReplacement" "number"]),
  .set (.one 1) (.bin .Add (.var 1) (.lst [eEnt 2 "BadRow" "number", eEnt 3 "BadNumber" "value"])),
  .set (.one 1) (.bin .Add (.var 1) (.lst [eEnt 4 "BadName" "value", eEnt 5 "BadSurd" "value"])),
  .set (.one 1) (.bin .Add (.var 1) (.lst [eEnt 6 "BadLine" "part", eEnt 7 "BadPaper" "part"])),
  .set (.one 1) (.bin .Add (.var 1) (.lst [eEnt 8 "BadText" "line", eEnt 9 "TooLong" "most"])),
  .ret (.bin .Add (.var 1) (.lst [eEnt 10 "Nothing" "value"]))]
def MaE (F : Fsem) : Prop := ∀ (x : D) (S : Sto), noLoc x = true → F [x] S = .ok (.lst (clsE.map (entE x))) S
theorem mk_ev {c : Str} (g : G c = some (.fn c)) (hc : isXc c = true) {e : CE} {Γ : Gam} {S : Sto} {x : D} (he : ev Φ G e Γ S = .ok x S) (hx : noLoc x = true) : ev Φ G (.mk c e) Γ S = .ok (.exc c [x]) S := by
  have h1 : isFn c (G c) = true := by rw [g]; exact decide_eq_true rfl
  rw [ev, if_pos ⟨h1, hc⟩, he]
  show (if noLoc x = true then _ else _) = _
  rw [if_pos hx]
theorem mkk_ev {c f : Str} (g : G c = some (.fn c)) (hc : isXc c = true) (hf : fldT c = f) {e : CE} {Γ : Gam} {S : Sto} {x : D} (he : ev Φ G e Γ S = .ok x S) (hx : noLoc x = true) : ev Φ G (.mkk c f e) Γ S = .ok (.exc c [x]) S := by
  have h1 : isFn c (G c) = true := by rw [g]; exact decide_eq_true rfl
  rw [ev, if_pos ⟨⟨h1, hc⟩, hf⟩, he]
  show (if noLoc x = true then _ else _) = _
  rw [if_pos hx]
theorem ent_ev {n : Nat} {c f : Str} (g : G c = some (.fn c)) (hc : isXc c = true) (hf : fldT c = f) {e : CE} {Γ : Gam} {S : Sto} {x : D} (he : ev Φ G e Γ S = .ok x S) (hx : noLoc x = true) : ev Φ G (.tup [.con (.int n), .mk c e, .mkk c f e]) Γ S = .ok (entE x (n, c)) S := by
  have a := mk_ev (Φ := Φ) g hc he hx
  have b := mkk_ev (Φ := Φ) g hc hf he hx
  generalize CE.mk c e = A at *
  generalize CE.mkk c f e = B at *
  have nx : noLoc (D.exc c [x]) = true := rfl
  simp [a, b, szL, entE, nx]
theorem maE (hg : GoE G) : MaE (fsem Φ Φf G fuel 1 2 bMade) := by
  intro x S hx
  have hz : szL = 16777216 := rfl
  have v : ∀ y, ev Φ G (.var 0) [some x, y] S = .ok x S := fun y => rfl
  have E : ∀ (n : Nat) (c f : Str), (n, c) ∈ clsE → isXc c = true → fldT c = f → ∀ y, ev Φ G (eEnt n c f) [some x, y] S = .ok (entE x (n, c)) S := fun n c f h1 h2 h3 y => ent_ev (hg.2 _ h1) h2 h3 (v y) hx
  have nl : ∀ p, noLoc (entE x p) = true := fun _ => rfl
  have e0 := E 0 "BadWord" "value" (by decide) (by decide +kernel) (by decide +kernel)
  have e1 := E 1 "BadReplacement" "number" (by decide) (by decide +kernel) (by decide +kernel)
  have e2 := E 2 "BadRow" "number" (by decide) (by decide +kernel) (by decide +kernel)
  have e3 := E 3 "BadNumber" "value" (by decide) (by decide +kernel) (by decide +kernel)
  have e4 := E 4 "BadName" "value" (by decide) (by decide +kernel) (by decide +kernel)
  have e5 := E 5 "BadSurd" "value" (by decide) (by decide +kernel) (by decide +kernel)
  have e6 := E 6 "BadLine" "part" (by decide) (by decide +kernel) (by decide +kernel)
  have e7 := E 7 "BadPaper" "part" (by decide) (by decide +kernel) (by decide +kernel)
  have e8 := E 8 "BadText" "line" (by decide) (by decide +kernel) (by decide +kernel)
  have e9 := E 9 "TooLong" "most" (by decide) (by decide +kernel) (by decide +kernel)
  have e10 := E 10 "Nothing" "value" (by decide) (by decide +kernel) (by decide +kernel)
  show outR S.length (exSs Φ Φf G fuel S.length bMade [some x, none] S) = R.ok (.lst [entE x (0, "BadWord"), entE x (1, "BadReplacement"), entE x (2, "BadRow"), entE x (3, "BadNumber"), entE x (4, "BadName"), entE x (5, "BadSurd"), entE x (6, "BadLine"), entE x (7, "BadPaper"), entE x (8, "BadText"), entE x (9, "TooLong"), entE x (10, "Nothing")]) S
  unfold bMade
  have n0 := nl (0, "BadWord")
  have n1 := nl (1, "BadReplacement")
  have n2 := nl (2, "BadRow")
  have n3 := nl (3, "BadNumber")
  have n4 := nl (4, "BadName")
  have n5 := nl (5, "BadSurd")
  have n6 := nl (6, "BadLine")
  have n7 := nl (7, "BadPaper")
  have n8 := nl (8, "BadText")
  have n9 := nl (9, "TooLong")
  have n10 := nl (10, "Nothing")
  generalize entE x (0, "BadWord") = X0 at *
  generalize eEnt 0 "BadWord" "value" = C0 at *
  generalize entE x (1, "BadReplacement") = X1 at *
  generalize eEnt 1 "BadReplacement" "number" = C1 at *
  generalize entE x (2, "BadRow") = X2 at *
  generalize eEnt 2 "BadRow" "number" = C2 at *
  generalize entE x (3, "BadNumber") = X3 at *
  generalize eEnt 3 "BadNumber" "value" = C3 at *
  generalize entE x (4, "BadName") = X4 at *
  generalize eEnt 4 "BadName" "value" = C4 at *
  generalize entE x (5, "BadSurd") = X5 at *
  generalize eEnt 5 "BadSurd" "value" = C5 at *
  generalize entE x (6, "BadLine") = X6 at *
  generalize eEnt 6 "BadLine" "part" = C6 at *
  generalize entE x (7, "BadPaper") = X7 at *
  generalize eEnt 7 "BadPaper" "part" = C7 at *
  generalize entE x (8, "BadText") = X8 at *
  generalize eEnt 8 "BadText" "line" = C8 at *
  generalize entE x (9, "TooLong") = X9 at *
  generalize eEnt 9 "TooLong" "most" = C9 at *
  generalize entE x (10, "Nothing") = X10 at *
  generalize eEnt 10 "Nothing" "value" = C10 at *
  simp [e0, n0, e1, n1, e2, n2, e3, n3, e4, n4, e5, n5, e6, n6, e7, n7, e8, n8, e9, n9, e10, n10, hz, addD]
/-- the marks of an error -/
def dueE (i : Nat) : List D := [.bl (i == 0), .bl (i == 1), .bl (i == 2), .bl (i == 3), .bl (i == 4), .bl (i == 5), .bl (i == 6), .bl (i == 7), .bl (i == 8), .bl (i == 9), .bl (i == 10), .bl (decide (i < 9)), .bl (decide (i < 9)), .bl (i == 9), .bl (i == 10)]
def bMarks : List CS := [.set (.one 1) (.lst [.isc (.var 0) "BadWord", .isc (.var 0) "BadReplacement", .isc (.var 0) "BadRow"]),
  .set (.one 1) (.bin .Add (.var 1) (.lst [.isc (.var 0) "BadNumber", .isc (.var 0) "BadName", .isc (.var 0) "BadSurd"])),
  .set (.one 1) (.bin .Add (.var 1) (.lst [.isc (.var 0) "BadLine", .isc (.var 0) "BadPaper", .isc (.var 0) "BadText"])),
  .set (.one 1) (.bin .Add (.var 1) (.lst [.isc (.var 0) "TooLong", .isc (.var 0) "Nothing", .isc (.var 0) "EvenError"])),
  .ret (.bin .Add (.var 1) (.lst [.isb (.var 0) "ValueError", .isb (.var 0) "OverflowError", .isb (.var 0) "LookupError"]))]
theorem isc_ev {c x : Str} {ds : List D} {b : Bool} (g : G c = some (.fn c)) {e : CE} {Γ : Gam} {S : Sto} (he : ev Φ G e Γ S = .ok (.exc x ds) S) (h : subT x c = some b) : ev Φ G (.isc e c) Γ S = .ok (.bl b) S := by
  have h1 : isFn c (G c) = true := by rw [g]; exact decide_eq_true rfl
  rw [ev, if_pos h1, he]
  show R.lift ((subT x c).map .bl) S = _
  rw [h]
  rfl
theorem isb_ev {x : Str} {T : String} {ds : List D} {b : Bool} {e : CE} {Γ : Gam} {S : Sto} (he : ev Φ G e Γ S = .ok (.exc x ds) S) (h : subU x T = some b) : ev Φ G (.isb e T) Γ S = .ok (.bl b) S := by
  rw [ev, he]
  show R.lift ((subU x T).map .bl) S = _
  rw [h]
  rfl
theorem marks_gen (hg : GoE G) {c : Str} {ds : List D} {S : Sto} {b0 b1 b2 b3 b4 b5 b6 b7 b8 b9 b10 b11 u0 u1 u2 : Bool}
    (h0 : subT c "BadWord" = some b0) (h1 : subT c "BadReplacement" = some b1) (h2 : subT c "BadRow" = some b2) (h3 : subT c "BadNumber" = some b3) (h4 : subT c "BadName" = some b4) (h5 : subT c "BadSurd" = some b5) (h6 : subT c "BadLine" = some b6) (h7 : subT c "BadPaper" = some b7) (h8 : subT c "BadText" = some b8) (h9 : subT c "TooLong" = some b9) (h10 : subT c "Nothing" = some b10) (h11 : subT c "EvenError" = some b11) (k0 : subU c "ValueError" = some u0) (k1 : subU c "OverflowError" = some u1) (k2 : subU c "LookupError" = some u2) :
    fsem Φ Φf G fuel 1 2 bMarks [.exc c ds] S = .ok (.lst [.bl b0, .bl b1, .bl b2, .bl b3, .bl b4, .bl b5, .bl b6, .bl b7, .bl b8, .bl b9, .bl b10, .bl b11, .bl u0, .bl u1, .bl u2]) S := by
  have hz : szL = 16777216 := rfl
  have v : ∀ y, ev Φ G (.var 0) [some (.exc c ds), y] S = .ok (.exc c ds) S := fun y => rfl
  have i0 := fun y => isc_ev (hg.2 (0, "BadWord") (by decide)) (v y) h0
  have i1 := fun y => isc_ev (hg.2 (1, "BadReplacement") (by decide)) (v y) h1
  have i2 := fun y => isc_ev (hg.2 (2, "BadRow") (by decide)) (v y) h2
  have i3 := fun y => isc_ev (hg.2 (3, "BadNumber") (by decide)) (v y) h3
  have i4 := fun y => isc_ev (hg.2 (4, "BadName") (by decide)) (v y) h4
  have i5 := fun y => isc_ev (hg.2 (5, "BadSurd") (by decide)) (v y) h5
  have i6 := fun y => isc_ev (hg.2 (6, "BadLine") (by decide)) (v y) h6
  have i7 := fun y => isc_ev (hg.2 (7, "BadPaper") (by decide)) (v y) h7
  have i8 := fun y => isc_ev (hg.2 (8, "BadText") (by decide)) (v y) h8
  have i9 := fun y => isc_ev (hg.2 (9, "TooLong") (by decide)) (v y) h9
  have i10 := fun y => isc_ev (hg.2 (10, "Nothing") (by decide)) (v y) h10
  have i11 := fun y => isc_ev hg.1 (v y) h11
  have j0 := fun y => isb_ev (v y) k0
  have j1 := fun y => isb_ev (v y) k1
  have j2 := fun y => isb_ev (v y) k2
  show outR S.length (exSs Φ Φf G fuel S.length bMarks [some (.exc c ds), none] S) = _
  unfold bMarks
  generalize CE.isc (.var 0) "BadWord" = C0 at *
  generalize CE.isc (.var 0) "BadReplacement" = C1 at *
  generalize CE.isc (.var 0) "BadRow" = C2 at *
  generalize CE.isc (.var 0) "BadNumber" = C3 at *
  generalize CE.isc (.var 0) "BadName" = C4 at *
  generalize CE.isc (.var 0) "BadSurd" = C5 at *
  generalize CE.isc (.var 0) "BadLine" = C6 at *
  generalize CE.isc (.var 0) "BadPaper" = C7 at *
  generalize CE.isc (.var 0) "BadText" = C8 at *
  generalize CE.isc (.var 0) "TooLong" = C9 at *
  generalize CE.isc (.var 0) "Nothing" = C10 at *
  generalize CE.isc (.var 0) "EvenError" = C11 at *
  generalize CE.isb (.var 0) "ValueError" = U0 at *
  generalize CE.isb (.var 0) "OverflowError" = U1 at *
  generalize CE.isb (.var 0) "LookupError" = U2 at *
  simp [i0, i1, i2, i3, i4, i5, i6, i7, i8, i9, i10, i11, j0, j1, j2, hz, addD]
structure MkE (F : Fsem) : Prop where
  own : ∀ (p : Nat × Str) (x : D) (S : Sto), p ∈ clsE → F [.exc p.2 [x]] S = .ok (.lst (dueE p.1)) S
  base : ∀ (S : Sto), F [.exc "EvenError" []] S = .ok (.lst (dueE 11 |>.take 11 |>.append [.bl true, .bl true, .bl false, .bl false])) S
theorem mkE (hg : GoE G) : MkE (fsem Φ Φf G fuel 1 2 bMarks) := by
  constructor
  · intro p x S hp
    simp only [clsE, List.mem_cons, List.not_mem_nil, or_false] at hp
    rcases hp with rfl | rfl | rfl | rfl | rfl | rfl | rfl | rfl | rfl | rfl | rfl
    all_goals exact marks_gen hg (by decide +kernel) (by decide +kernel) (by decide +kernel) (by decide +kernel) (by decide +kernel) (by decide +kernel) (by decide +kernel) (by decide +kernel) (by decide +kernel) (by decide +kernel) (by decide +kernel) (by decide +kernel) (by decide +kernel) (by decide +kernel) (by decide +kernel)
  · intro S
    exact marks_gen hg (by decide +kernel) (by decide +kernel) (by decide +kernel) (by decide +kernel) (by decide +kernel) (by decide +kernel) (by decide +kernel) (by decide +kernel) (by decide +kernel) (by decide +kernel) (by decide +kernel) (by decide +kernel) (by decide +kernel) (by decide +kernel) (by decide +kernel)
/-! what an error keeps -/
def bKept : List CS := [.ite (.cmp .In (.var 0) (.tup [.con (.int 1), .con (.int 2)])) [.ret (.att (.var 1) "number")] [],
  .ite (.cmp .In (.var 0) (.tup [.con (.int 6), .con (.int 7)])) [.ret (.att (.var 1) "part")] [],
  .ite (.cmp .Eq (.var 0) (.con (.int 8))) [.ret (.att (.var 1) "line")] [],
  .ret (.ite (.cmp .Eq (.var 0) (.con (.int 9))) (.att (.var 1) "most") (.att (.var 1) "value"))]
theorem att_ev {c f : Str} {x : D} (hc : isXc c = true) (hf : fldT c = f) {y : Option D} {S : Sto} : ev Φ G (.att (.var 1) f) [y, some (.exc c [x])] S = .ok x S := by
  have v : ev Φ G (.var 1) [y, some (.exc c [x])] S = .ok (.exc c [x]) S := rfl
  rw [ev, v]
  show (if isXc c = true ∧ fldT c = f then _ else _) = _
  rw [if_pos ⟨hc, hf⟩]
def KeE (F : Fsem) : Prop := ∀ (p : Nat × Str) (x : D) (S : Sto), p ∈ clsE → noLoc x = true → F [.int p.1, .exc p.2 [x]] S = .ok x S
theorem keE : KeE (fsem Φ Φf G fuel 2 2 bKept) := by
  intro p x S hp hx
  have o : outD S.length S x = x := outD_no hx
  simp only [clsE, List.mem_cons, List.not_mem_nil, or_false] at hp
  rcases hp with rfl | rfl | rfl | rfl | rfl | rfl | rfl | rfl | rfl | rfl | rfl
  · have a := att_ev (Φ := Φ) (G := G) (c := "BadWord") (f := "value") (x := x) (by decide +kernel) (by decide +kernel) (y := some (.int 0)) (S := S)
    have q1 : cmpD .In (.int 0) (.tup [.int 1, .int 2]) = some (.bl false) := rfl
    have q2 : cmpD .In (.int 0) (.tup [.int 6, .int 7]) = some (.bl false) := rfl
    have q3 : cmpD .Eq (.int 0) (.int 8) = some (.bl false) := rfl
    have q4 : cmpD .Eq (.int 0) (.int 9) = some (.bl false) := rfl
    show outR S.length (exSs Φ Φf G fuel S.length bKept [some (.int 0), some (.exc "BadWord" [x])] S) = _
    unfold bKept
    generalize CE.att (.var 1) "value" = A at *
    generalize D.exc "BadWord" [x] = X at *
    simp [a, q1, q2, q3, q4, o, szL]
  · have a := att_ev (Φ := Φ) (G := G) (c := "BadReplacement") (f := "number") (x := x) (by decide +kernel) (by decide +kernel) (y := some (.int 1)) (S := S)
    have q1 : cmpD .In (.int 1) (.tup [.int 1, .int 2]) = some (.bl true) := rfl
    have q2 : cmpD .In (.int 1) (.tup [.int 6, .int 7]) = some (.bl false) := rfl
    have q3 : cmpD .Eq (.int 1) (.int 8) = some (.bl false) := rfl
    have q4 : cmpD .Eq (.int 1) (.int 9) = some (.bl false) := rfl
    show outR S.length (exSs Φ Φf G fuel S.length bKept [some (.int 1), some (.exc "BadReplacement" [x])] S) = _
    unfold bKept
    generalize CE.att (.var 1) "number" = A at *
    generalize D.exc "BadReplacement" [x] = X at *
    simp [a, q1, q2, q3, q4, o, szL]
  · have a := att_ev (Φ := Φ) (G := G) (c := "BadRow") (f := "number") (x := x) (by decide +kernel) (by decide +kernel) (y := some (.int 2)) (S := S)
    have q1 : cmpD .In (.int 2) (.tup [.int 1, .int 2]) = some (.bl true) := rfl
    have q2 : cmpD .In (.int 2) (.tup [.int 6, .int 7]) = some (.bl false) := rfl
    have q3 : cmpD .Eq (.int 2) (.int 8) = some (.bl false) := rfl
    have q4 : cmpD .Eq (.int 2) (.int 9) = some (.bl false) := rfl
    show outR S.length (exSs Φ Φf G fuel S.length bKept [some (.int 2), some (.exc "BadRow" [x])] S) = _
    unfold bKept
    generalize CE.att (.var 1) "number" = A at *
    generalize D.exc "BadRow" [x] = X at *
    simp [a, q1, q2, q3, q4, o, szL]
  · have a := att_ev (Φ := Φ) (G := G) (c := "BadNumber") (f := "value") (x := x) (by decide +kernel) (by decide +kernel) (y := some (.int 3)) (S := S)
    have q1 : cmpD .In (.int 3) (.tup [.int 1, .int 2]) = some (.bl false) := rfl
    have q2 : cmpD .In (.int 3) (.tup [.int 6, .int 7]) = some (.bl false) := rfl
    have q3 : cmpD .Eq (.int 3) (.int 8) = some (.bl false) := rfl
    have q4 : cmpD .Eq (.int 3) (.int 9) = some (.bl false) := rfl
    show outR S.length (exSs Φ Φf G fuel S.length bKept [some (.int 3), some (.exc "BadNumber" [x])] S) = _
    unfold bKept
    generalize CE.att (.var 1) "value" = A at *
    generalize D.exc "BadNumber" [x] = X at *
    simp [a, q1, q2, q3, q4, o, szL]
  · have a := att_ev (Φ := Φ) (G := G) (c := "BadName") (f := "value") (x := x) (by decide +kernel) (by decide +kernel) (y := some (.int 4)) (S := S)
    have q1 : cmpD .In (.int 4) (.tup [.int 1, .int 2]) = some (.bl false) := rfl
    have q2 : cmpD .In (.int 4) (.tup [.int 6, .int 7]) = some (.bl false) := rfl
    have q3 : cmpD .Eq (.int 4) (.int 8) = some (.bl false) := rfl
    have q4 : cmpD .Eq (.int 4) (.int 9) = some (.bl false) := rfl
    show outR S.length (exSs Φ Φf G fuel S.length bKept [some (.int 4), some (.exc "BadName" [x])] S) = _
    unfold bKept
    generalize CE.att (.var 1) "value" = A at *
    generalize D.exc "BadName" [x] = X at *
    simp [a, q1, q2, q3, q4, o, szL]
  · have a := att_ev (Φ := Φ) (G := G) (c := "BadSurd") (f := "value") (x := x) (by decide +kernel) (by decide +kernel) (y := some (.int 5)) (S := S)
    have q1 : cmpD .In (.int 5) (.tup [.int 1, .int 2]) = some (.bl false) := rfl
    have q2 : cmpD .In (.int 5) (.tup [.int 6, .int 7]) = some (.bl false) := rfl
    have q3 : cmpD .Eq (.int 5) (.int 8) = some (.bl false) := rfl
    have q4 : cmpD .Eq (.int 5) (.int 9) = some (.bl false) := rfl
    show outR S.length (exSs Φ Φf G fuel S.length bKept [some (.int 5), some (.exc "BadSurd" [x])] S) = _
    unfold bKept
    generalize CE.att (.var 1) "value" = A at *
    generalize D.exc "BadSurd" [x] = X at *
    simp [a, q1, q2, q3, q4, o, szL]
  · have a := att_ev (Φ := Φ) (G := G) (c := "BadLine") (f := "part") (x := x) (by decide +kernel) (by decide +kernel) (y := some (.int 6)) (S := S)
    have q1 : cmpD .In (.int 6) (.tup [.int 1, .int 2]) = some (.bl false) := rfl
    have q2 : cmpD .In (.int 6) (.tup [.int 6, .int 7]) = some (.bl true) := rfl
    have q3 : cmpD .Eq (.int 6) (.int 8) = some (.bl false) := rfl
    have q4 : cmpD .Eq (.int 6) (.int 9) = some (.bl false) := rfl
    show outR S.length (exSs Φ Φf G fuel S.length bKept [some (.int 6), some (.exc "BadLine" [x])] S) = _
    unfold bKept
    generalize CE.att (.var 1) "part" = A at *
    generalize D.exc "BadLine" [x] = X at *
    simp [a, q1, q2, q3, q4, o, szL]
  · have a := att_ev (Φ := Φ) (G := G) (c := "BadPaper") (f := "part") (x := x) (by decide +kernel) (by decide +kernel) (y := some (.int 7)) (S := S)
    have q1 : cmpD .In (.int 7) (.tup [.int 1, .int 2]) = some (.bl false) := rfl
    have q2 : cmpD .In (.int 7) (.tup [.int 6, .int 7]) = some (.bl true) := rfl
    have q3 : cmpD .Eq (.int 7) (.int 8) = some (.bl false) := rfl
    have q4 : cmpD .Eq (.int 7) (.int 9) = some (.bl false) := rfl
    show outR S.length (exSs Φ Φf G fuel S.length bKept [some (.int 7), some (.exc "BadPaper" [x])] S) = _
    unfold bKept
    generalize CE.att (.var 1) "part" = A at *
    generalize D.exc "BadPaper" [x] = X at *
    simp [a, q1, q2, q3, q4, o, szL]
  · have a := att_ev (Φ := Φ) (G := G) (c := "BadText") (f := "line") (x := x) (by decide +kernel) (by decide +kernel) (y := some (.int 8)) (S := S)
    have q1 : cmpD .In (.int 8) (.tup [.int 1, .int 2]) = some (.bl false) := rfl
    have q2 : cmpD .In (.int 8) (.tup [.int 6, .int 7]) = some (.bl false) := rfl
    have q3 : cmpD .Eq (.int 8) (.int 8) = some (.bl true) := rfl
    have q4 : cmpD .Eq (.int 8) (.int 9) = some (.bl false) := rfl
    show outR S.length (exSs Φ Φf G fuel S.length bKept [some (.int 8), some (.exc "BadText" [x])] S) = _
    unfold bKept
    generalize CE.att (.var 1) "line" = A at *
    generalize D.exc "BadText" [x] = X at *
    simp [a, q1, q2, q3, q4, o, szL]
  · have a := att_ev (Φ := Φ) (G := G) (c := "TooLong") (f := "most") (x := x) (by decide +kernel) (by decide +kernel) (y := some (.int 9)) (S := S)
    have q1 : cmpD .In (.int 9) (.tup [.int 1, .int 2]) = some (.bl false) := rfl
    have q2 : cmpD .In (.int 9) (.tup [.int 6, .int 7]) = some (.bl false) := rfl
    have q3 : cmpD .Eq (.int 9) (.int 8) = some (.bl false) := rfl
    have q4 : cmpD .Eq (.int 9) (.int 9) = some (.bl true) := rfl
    show outR S.length (exSs Φ Φf G fuel S.length bKept [some (.int 9), some (.exc "TooLong" [x])] S) = _
    unfold bKept
    generalize CE.att (.var 1) "most" = A at *
    generalize D.exc "TooLong" [x] = X at *
    simp [a, q1, q2, q3, q4, o, szL]
  · have a := att_ev (Φ := Φ) (G := G) (c := "Nothing") (f := "value") (x := x) (by decide +kernel) (by decide +kernel) (y := some (.int 10)) (S := S)
    have q1 : cmpD .In (.int 10) (.tup [.int 1, .int 2]) = some (.bl false) := rfl
    have q2 : cmpD .In (.int 10) (.tup [.int 6, .int 7]) = some (.bl false) := rfl
    have q3 : cmpD .Eq (.int 10) (.int 8) = some (.bl false) := rfl
    have q4 : cmpD .Eq (.int 10) (.int 9) = some (.bl false) := rfl
    show outR S.length (exSs Φ Φf G fuel S.length bKept [some (.int 10), some (.exc "Nothing" [x])] S) = _
    unfold bKept
    generalize CE.att (.var 1) "value" = A at *
    generalize D.exc "Nothing" [x] = X at *
    simp [a, q1, q2, q3, q4, o, szL]
end
end EK

set_option Elab.async false
set_option linter.all false
set_option maxRecDepth 100000
set_option maxHeartbeats 4000000
namespace EK
open PySem L2 PySem.Spec PyProof.Rows
/-! ### k01: the law -/
section
variable {Φ Φf : Str → Option Fsem} {G : Str → Option D} {fuel : Nat}
theorem isFn_self {c : Str} : isFn c (some (.fn c)) = true := decide_eq_true rfl
def eDueL : CE := .lc (.cmp .Eq (.var 11) (.var 6)) (.one 11) .rng [.con (.int 11)] (.con (.bl true)) [("_law_spot", 11)]
def eDue : CE := .bin .Add eDueL (.lst [.cmp .Lt (.var 6) (.con (.int 9)), .cmp .Lt (.var 6) (.con (.int 9)), .cmp .Eq (.var 6) (.con (.int 9)), .cmp .Eq (.var 6) (.con (.int 10))])
theorem ceq_int (i j : Nat) : cmpD .Eq (.int (i : Int)) (.int (j : Int)) = some (.bl (i == j)) := by
  have e : cmpD .Eq (.int (i : Int)) (.int (j : Int)) = some (.bl (decide ((i : Int) = j))) := rfl
  rw [e]
  have : decide ((i : Int) = j) = (i == j) := by
    by_cases h : i = j
    · subst h; simp
    · rw [beq_false_of_ne h, decide_eq_false]; omega
  rw [this]
theorem dueL_ev {x0 x1 x2 x3 x4 x5 x7 x8 x9 x10 x11 : Option D} {S : Sto} (i : Nat) : ev Φ G eDueL [x0, x1, x2, x3, x4, x5, some (.int (i : Int)), x7, x8, x9, x10, x11] S = .ok (.lst [.bl (i == 0), .bl (i == 1), .bl (i == 2), .bl (i == 3), .bl (i == 4), .bl (i == 5), .bl (i == 6), .bl (i == 7), .bl (i == 8), .bl (i == 9), .bl (i == 10)]) S := by
  have hz : szL = 16777216 := rfl
  have l : ∀ cond elt, cond = ev Φ G (.con (.bl true)) → elt = ev Φ G (.cmp .Eq (.var 11) (.var 6)) → lcLoop cond elt (.one 11) [x0, x1, x2, x3, x4, x5, some (.int (i : Int)), x7, x8, x9, x10, none] ((List.range 11).map fun (k : Nat) => D.int (0 + (k : Int))) [] S = .ok (.lst ([] ++ (List.range 11).map fun (k : Nat) => D.bl (i == k))) S := by
    rintro cond elt rfl rfl
    refine lc_at (fun (k : Nat) => D.int (0 + (k : Int))) (fun (k : Nat) => D.bl (i == k)) (List.range 11) [] fun k _ => ⟨_, rfl, rfl, ?_, rfl⟩
    have e := ceq_int k i
    have e2 : (k == i) = (i == k) := by
      by_cases h : k = i
      · subst h; rfl
      · rw [beq_false_of_ne h, beq_false_of_ne (Ne.symm h)]
    rw [e2] at e
    simp [e]
  have l := l _ _ rfl rfl
  have it : itD .rng [.int 11] = some ((List.range 11).map fun (k : Nat) => D.int (0 + (k : Int))) := by
    have q : itD .rng [.int ((11 : Nat) : Int)] = some (rngL 0 11) := it_rng1 (in62_of (by omega) (by omega)) (by omega)
    exact q
  have ln : ((List.range 11).map fun (k : Nat) => D.int (0 + (k : Int))).length ≤ szL := by rw [List.length_map, List.length_range, hz]; omega
  have f : ([] ++ (List.range 11).map fun (k : Nat) => D.bl (i == k)) = [.bl (i == 0), .bl (i == 1), .bl (i == 2), .bl (i == 3), .bl (i == 4), .bl (i == 5), .bl (i == 6), .bl (i == 7), .bl (i == 8), .bl (i == 9), .bl (i == 10)] := rfl
  rw [f] at l
  generalize ((List.range 11).map fun (k : Nat) => D.int (0 + (k : Int))) = L at *
  simp only [eDueL]
  rw [ev, evs]
  show (RA.bind _ _) = _
  simp [it, ln]
  simp at l
  exact l
theorem due_ev {x0 x1 x2 x3 x4 x5 x7 x8 x9 x10 x11 : Option D} {S : Sto} (i : Nat) : ev Φ G eDue [x0, x1, x2, x3, x4, x5, some (.int (i : Int)), x7, x8, x9, x10, x11] S = .ok (.lst (dueE i)) S := by
  have hz : szL = 16777216 := rfl
  have a := dueL_ev (Φ := Φ) (G := G) (x0 := x0) (x1 := x1) (x2 := x2) (x3 := x3) (x4 := x4) (x5 := x5) (x7 := x7) (x8 := x8) (x9 := x9) (x10 := x10) (x11 := x11) (S := S) i
  have c1 : cmpD .Lt (.int (i : Int)) (.int 9) = some (.bl (decide (i < 9))) := by
    have e : cmpD .Lt (.int (i : Int)) (.int 9) = some (.bl (decide ((i : Int) < 9))) := rfl
    rw [e]
    have : decide ((i : Int) < 9) = decide (i < 9) := by
      by_cases h : i < 9
      · rw [decide_eq_true h, decide_eq_true]; omega
      · rw [decide_eq_false h, decide_eq_false]; omega
    rw [this]
  have c2 : cmpD .Eq (.int (i : Int)) (.int 9) = some (.bl (i == 9)) := ceq_int i 9
  have c3 : cmpD .Eq (.int (i : Int)) (.int 10) = some (.bl (i == 10)) := ceq_int i 10
  unfold eDue dueE
  generalize eDueL = e at *
  simp [a, c1, c2, c3, hz, addD]
def lErr : List CS := [.ite (.or (.cmp .NotEq (.call "_law_marks" [.var 10]) (.var 9)) (.cmp .NotEq (.blt .repr [.call "_law_kept" [.var 6, .var 10]]) (.blt .repr [.var 5]))) [.ret (.con (.bl false))] []]
def lMid : List CS := [.set (.one 9) eDue, .loop (.one 10) .seq [.tup [.var 7, .var 8]] lErr]
/-- data that a text tells -/
structure ShE (x : D) : Prop where
  no : noLoc x = true
  re : ∃ t, reprD [x] = some (.str t)
theorem ne_due (i : Nat) : cmpD .NotEq (.lst (dueE i)) (.lst (dueE i)) = some (.bl false) := cne_ok (n := 1) rfl (by omega)
theorem mid01 {Fm Fk : Fsem} (em : Φ "_law_marks" = some Fm) (hm : MkE Fm) (ek : Φ "_law_kept" = some Fk) (hk : KeE Fk) {p : Nat × Str} (hp : p ∈ clsE) {x : D} (hx : ShE x) {n0 : Nat} {x0 x1 x2 x3 x4 x9 x10 x11 : Option D} {S : Sto} :
    exSs Φ Φf G fuel n0 lMid [x0, x1, x2, x3, x4, some x, some (.int (p.1 : Int)), some (.exc p.2 [x]), some (.exc p.2 [x]), x9, x10, x11] S = .next [x0, x1, x2, x3, x4, some x, some (.int (p.1 : Int)), some (.exc p.2 [x]), some (.exc p.2 [x]), some (.lst (dueE p.1)), some (.exc p.2 [x]), x11] S := by
  have hz : szL = 16777216 := rfl
  obtain ⟨no, t, re⟩ := hx
  have a := hm.own p x S hp
  have b := hk p x S hp no
  have d := due_ev (Φ := Φ) (G := G) (x0 := x0) (x1 := x1) (x2 := x2) (x3 := x3) (x4 := x4) (x5 := some x) (x7 := some (.exc p.2 [x])) (x8 := some (.exc p.2 [x])) (x9 := x9) (x10 := x10) (x11 := x11) (S := S) p.1
  have ne := ne_due p.1
  have nn : cmpD .NotEq (.str t) (.str t) = some (.bl false) := by
    show some (D.bl (!decide (t = t))) = _
    simp
  have nX : noLoc (D.exc p.2 [x]) = true := rfl
  have vx : ∀ S, vw S x = x := fun S => vw_no no
  generalize D.exc p.2 [x] = X at *
  generalize dueE p.1 = L at *
  have bd : ∀ y, exSs Φ Φf G fuel n0 lErr [x0, x1, x2, x3, x4, some x, some (.int (p.1 : Int)), some X, some X, some (.lst L), some X, y] S = .next [x0, x1, x2, x3, x4, some x, some (.int (p.1 : Int)), some X, some X, some (.lst L), some X, y] S := fun y => by
    simp [lErr, a, b, ne, nn, em, ek, re, nX, vw_no nX, vx, hz]
  have lp : loopN (exSs Φ Φf G fuel n0 lErr) (.one 10) [X, X] [x0, x1, x2, x3, x4, some x, some (.int (p.1 : Int)), some X, some X, some (.lst L), x10, x11] S = .next [x0, x1, x2, x3, x4, some x, some (.int (p.1 : Int)), some X, some X, some (.lst L), some X, x11] S := by
    show (exSs Φ Φf G fuel n0 lErr [x0, x1, x2, x3, x4, some x, some (.int (p.1 : Int)), some X, some X, some (.lst L), some X, x11] S).then _ = _
    rw [bd, then_next]
    show (exSs Φ Φf G fuel n0 lErr [x0, x1, x2, x3, x4, some x, some (.int (p.1 : Int)), some X, some X, some (.lst L), some X, x11] S).then _ = _
    rw [bd, then_next]
    rfl
  unfold lMid
  generalize eDue = e at *
  generalize lErr = le at *
  simp [d, nX, vw_no nX, hz, lp]
theorem loop01 {Fm Fk : Fsem} (em : Φ "_law_marks" = some Fm) (hm : MkE Fm) (ek : Φ "_law_kept" = some Fk) (hk : KeE Fk) {x : D} (hx : ShE x) {n0 : Nat} {x0 x1 x2 x3 x4 x11 : Option D} {S : Sto} : ∀ (ps : List (Nat × Str)) (x6 x7 x8 x9 x10 : Option D), (∀ p ∈ ps, p ∈ clsE) →
    ∃ y6 y7 y8 y9 y10, loopN (exSs Φ Φf G fuel n0 lMid) (.many [6, 7, 8]) (ps.map (entE x)) [x0, x1, x2, x3, x4, some x, x6, x7, x8, x9, x10, x11] S = .next [x0, x1, x2, x3, x4, some x, y6, y7, y8, y9, y10, x11] S
  | [], x6, x7, x8, x9, x10, _ => ⟨x6, x7, x8, x9, x10, rfl⟩
  | p :: ps, x6, x7, x8, x9, x10, h => by
    obtain ⟨y6, y7, y8, y9, y10, w⟩ := loop01 em hm ek hk hx ps (some (.int (p.1 : Int))) (some (.exc p.2 [x])) (some (.exc p.2 [x])) (some (.lst (dueE p.1))) (some (.exc p.2 [x])) fun q hq => h q (List.mem_cons_of_mem _ hq)
    refine ⟨y6, y7, y8, y9, y10, ?_⟩
    show (exSs Φ Φf G fuel n0 lMid [x0, x1, x2, x3, x4, some x, some (.int (p.1 : Int)), some (.exc p.2 [x]), some (.exc p.2 [x]), x9, x10, x11] S).then _ = _
    rw [mid01 em hm ek hk (h p List.mem_cons_self) hx, then_next]
    exact w
def things01 : List D := [.non, .int 0, .bl true, .int (-7), .int (10 ^ 30), .str [], .str [111, 119, 110], .str [97, 98], .tup [], .tup [.int 1, .str [98]], .tup [.tup []], .lst [.int 1, .lst [.int 2]], .dic [], .dic [(.inr "a", .int 1)]]
theorem things01_ok : ∀ x ∈ things01, ShE x := by
  intro x hx
  have key : ∀ x ∈ things01, noLoc x = true ∧ (match reprD [x] with | some (.str _) => true | _ => false) = true := by decide +kernel
  obtain ⟨h1, h2⟩ := key x hx
  refine ⟨h1, ?_⟩
  split at h2
  · rename_i t e; exact ⟨t, e⟩
  · cases h2
def eThings01 : CE := .lst [.con .non, .con (.int 0), .con (.bl true), .neg (.con (.int 7)), .bin .Pow (.con (.int 10)) (.con (.int 30)), .con (.str []), .con (.str [111, 119, 110]), .con (.str [97, 98]), .tup [], .tup [.con (.int 1), .con (.str [98])], .tup [.tup []], .lst [.con (.int 1), .lst [.con (.int 2)]], .dic [] [], .dic [.inr "a"] [.con (.int 1)]]
theorem things01_ev {Γ : Gam} {S : Sto} : ev Φ G eThings01 Γ S = .ok (.lst things01) S := by
  have hz : szL = 16777216 := rfl
  have p : powD (.int 10) (.int 30) = some (.int (10 ^ 30)) := by
    show (if (0 : Int) ≤ 30 ∧ (30 : Int) ≤ 1000000 ∧ (10 : Int).natAbs < 2 ^ 64 then some (D.int (10 ^ (30 : Int).toNat)) else none) = _
    rw [if_pos ⟨by omega, by omega, by decide⟩]
    rfl
  unfold things01
  generalize ((10 : Int) ^ 30) = N at *
  simp [eThings01, p, hz]
def iLaw01 : CE := .bin .Add (.con (.int 4)) (.blt .min [.blt .len [.var 0], .con (.int 8)])
def lLap01 : List CS := [.set (.one 5) (.ite (.cmp .Lt (.var 3) (.con (.int 2))) (.idx (.var 2) (.var 3)) (.call "_law_of" [.var 1, .var 2])),
  .loop (.many [6, 7, 8]) .seq [.call "_law_made" [.var 5]] lMid]
theorem lap01 [TS] {Fo Fa Fm Fk : Fsem} (eo : Φ "_law_of" = some Fo) (ho : OfOk Fo) (ea : Φ "_law_made" = some Fa) (ha : MaE Fa) (em : Φ "_law_marks" = some Fm) (hm : MkE Fm) (ek : Φ "_law_kept" = some Fk) (hk : KeE Fk)
    {b : Int} {S : Sto} {n0 : Nat} {A x4 x5 x6 x7 x8 x9 x10 x11 : Option D} {i : Nat} (h0 : DS b S) (hb : b < 2 ^ 40) (hi : i < 1000) :
    ∃ y5 y6 y7 y8 y9 y10 S', exSs Φ Φf G fuel n0 lLap01 [A, some (.loc TS.T.length), some (.lst things01), some (.int (i : Int)), x4, x5, x6, x7, x8, x9, x10, x11] S = .next [A, some (.loc TS.T.length), some (.lst things01), some (.int (i : Int)), x4, y5, y6, y7, y8, y9, y10, x11] S' ∧ DS (b + 1) S' := by
  have hz : szL = 16777216 := rfl
  obtain ⟨x, S1, hx, e1, h1⟩ : ∃ x S1, x ∈ things01 ∧ ev Φ G (.ite (.cmp .Lt (.var 3) (.con (.int 2))) (.idx (.var 2) (.var 3)) (.call "_law_of" [.var 1, .var 2])) [A, some (.loc TS.T.length), some (.lst things01), some (.int (i : Int)), x4, x5, x6, x7, x8, x9, x10, x11] S = .ok x S1 ∧ DS (b + 1) S1 := by
    obtain ⟨x, S1, hx, e1, h1⟩ := ho.1 b things01 S h0 (by omega) (by decide) (by decide) fun x hx => (things01_ok x hx).no
    by_cases c : i < 2
    · have q : cmpD .Lt (.int (i : Int)) (.int 2) = some (.bl true) := by
        have e : cmpD .Lt (.int (i : Int)) (.int 2) = some (.bl (decide ((i : Int) < 2))) := rfl
        rw [e, decide_eq_true (by omega)]
      have d : ∃ y ∈ things01, idxD (.lst things01) (.int (i : Int)) = some y := by
        match i, c with
        | 0, _ => exact ⟨_, List.mem_cons_self .., rfl⟩
        | 1, _ => exact ⟨_, List.mem_cons_of_mem _ (List.mem_cons_self ..), rfl⟩
      obtain ⟨y, hy, d⟩ := d
      refine ⟨y, S, hy, ?_, h0.mono (by omega)⟩
      generalize things01 = T at *
      simp [q, d]
    · have q : cmpD .Lt (.int (i : Int)) (.int 2) = some (.bl false) := by
        have e : cmpD .Lt (.int (i : Int)) (.int 2) = some (.bl (decide ((i : Int) < 2))) := rfl
        rw [e, decide_eq_false (by omega)]
      refine ⟨x, S1, hx, ?_, h1⟩
      generalize things01 = T at *
      simp [q, eo, e1]
  have sh := things01_ok x hx
  obtain ⟨y6, y7, y8, y9, y10, w⟩ := loop01 (Φf := Φf) (G := G) (fuel := fuel) em hm ek hk sh (n0 := n0) (x0 := A) (x1 := some (.loc TS.T.length)) (x2 := some (.lst things01)) (x3 := some (.int (i : Int))) (x4 := x4) (x11 := x11) (S := S1) clsE x6 x7 x8 x9 x10 fun p hp => hp
  have m := ha x S1 sh.no
  refine ⟨some x, y6, y7, y8, y9, y10, S1, ?_, h1⟩
  unfold lLap01
  generalize clsE.map (entE x) = L at *
  generalize things01 = T at *
  have s1 : exS Φ Φf G fuel n0 (.set (.one 5) (.ite (.cmp .Lt (.var 3) (.con (.int 2))) (.idx (.var 2) (.var 3)) (.call "_law_of" [.var 1, .var 2]))) [A, some (.loc TS.T.length), some (.lst T), some (.int (i : Int)), x4, x5, x6, x7, x8, x9, x10, x11] S = .next [A, some (.loc TS.T.length), some (.lst T), some (.int (i : Int)), x4, some x, x6, x7, x8, x9, x10, x11] S1 := by
    rw [exS, e1]; rfl
  rw [exSs, s1, then_next]
  simp [ea, m, w]
def eDue0 : CE := .bin .Add (.bin .Mult (.lst [.con (.bl false)]) (.con (.int 11))) (.lst [.con (.bl true), .con (.bl true), .con (.bl false), .con (.bl false)])
def bLaw01 : List CS := [.own 1 (.call "_law_begun" [.var 0]),
  .set (.one 2) eThings01,
  .loop (.one 3) .rng [iLaw01] lLap01,
  .frz 1,
  .set (.one 4) (.mk0 "EvenError" (.con (.str [97, 110, 121]))),
  .ret (.cmp .Eq (.call "_law_marks" [.var 4]) eDue0)]
def due0 : List D := [.bl false, .bl false, .bl false, .bl false, .bl false, .bl false, .bl false, .bl false, .bl false, .bl false, .bl false, .bl true, .bl true, .bl false, .bl false]
theorem law01 [TS] (hg : GoE G) (hR : TS.R = []) {Fb Fo Fa Fm Fk : Fsem} (eb : Φf "_law_begun" = some Fb) (hbg : ∀ ns : List Int, ns.length ≤ 1000 → ∃ l, Fb [.frz (ns.map .int)] TS.T = .ok (.dic (dr (ns ++ [(ns.length : Int)]) l 0)) TS.T)
    (eo : Φ "_law_of" = some Fo) (ho : OfOk Fo) (ea : Φ "_law_made" = some Fa) (ha : MaE Fa) (em : Φ "_law_marks" = some Fm) (hm : MkE Fm) (ek : Φ "_law_kept" = some Fk) (hk : KeE Fk)
    (ns : List Int) (hn : ns.length ≤ 63) : fsem Φ Φf G fuel 1 12 bLaw01 [.frz (ns.map .int)] TS.T = .ok (.bl true) TS.T := by
  have hz : szL = 16777216 := rfl
  obtain ⟨l, hb⟩ := hbg ns (by omega)
  generalize hA : D.frz (ns.map .int) = A at hb
  have s1 : exS Φ Φf G fuel TS.T.length (.own 1 (.call "_law_begun" [.var 0])) [some A, none, none, none, none, none, none, none, none, none, none, none] TS.T = .next [some A, some (.loc TS.T.length), none, none, none, none, none, none, none, none, none, none] (TS.T ++ [.dic (dr (ns ++ [(ns.length : Int)]) l 0)]) := by
    simp [eb, hb]
  have d0 : DS 0 (TS.T ++ [.dic (dr (ns ++ [(ns.length : Int)]) l 0)]) := ⟨_, l, 0, by rw [hR], by simp, by omega, by omega⟩
  generalize TS.T ++ [.dic (dr (ns ++ [(ns.length : Int)]) l 0)] = S0 at s1 d0
  have s2 : exS Φ Φf G fuel TS.T.length (.set (.one 2) eThings01) [some A, some (.loc TS.T.length), none, none, none, none, none, none, none, none, none, none] S0 = .next [some A, some (.loc TS.T.length), some (.lst things01), none, none, none, none, none, none, none, none, none] S0 := by
    rw [exS, things01_ev]; rfl
  have mi : ev Φ G iLaw01 [some A, some (.loc TS.T.length), some (.lst things01), none, none, none, none, none, none, none, none, none] S0 = .ok (.int ((4 + min ns.length 8 : Nat) : Int)) S0 := by
    have e : minD [.int (ns.length : Int), .int 8] = some (.int (if (8 : Int) < ns.length then 8 else ns.length)) := rfl
    subst hA
    generalize things01 = s
    simp [iLaw01, e]
    split <;> omega
  have rg : itD .rng [.int ((4 + min ns.length 8 : Nat) : Int)] = some (rngL 0 (4 + min ns.length 8)) := it_rng1 (in62_of (by omega) (by omega)) (by omega)
  have s4 : ∃ y3 y5 y6 y7 y8 y9 y10 S', exS Φ Φf G fuel TS.T.length (.loop (.one 3) .rng [iLaw01] lLap01) [some A, some (.loc TS.T.length), some (.lst things01), none, none, none, none, none, none, none, none, none] S0 = .next [some A, some (.loc TS.T.length), some (.lst things01), y3, none, y5, y6, y7, y8, y9, y10, none] S' ∧ DS 1000 S' := by
    have key : ∃ y3 y5 y6 y7 y8 y9 y10 S', loopN (exSs Φ Φf G fuel TS.T.length lLap01) (.one 3) (rngL 0 (4 + min ns.length 8)) [some A, some (.loc TS.T.length), some (.lst things01), none, none, none, none, none, none, none, none, none] S0 = .next [some A, some (.loc TS.T.length), some (.lst things01), y3, none, y5, y6, y7, y8, y9, y10, none] S' ∧ DS 1000 S' := by
      refine loop0 (I := fun i Γ S => ∃ y3 y5 y6 y7 y8 y9 y10, Γ = [some A, some (.loc TS.T.length), some (.lst things01), y3, none, y5, y6, y7, y8, y9, y10, none] ∧ DS (i : Int) S) (post := fun r => ∃ y3 y5 y6 y7 y8 y9 y10 S', r = .next [some A, some (.loc TS.T.length), some (.lst things01), y3, none, y5, y6, y7, y8, y9, y10, none] S' ∧ DS 1000 S') ⟨_, _, _, _, _, _, _, rfl, d0.mono (by omega)⟩ ?_ ?_
      · rintro i x Γ S hi ⟨y3, y5, y6, y7, y8, y9, y10, rfl, h⟩
        obtain ⟨hi, rfl⟩ := rngAt hi
        obtain ⟨z5, z6, z7, z8, z9, z10, S', e, h'⟩ := lap01 (Φf := Φf) (G := G) (fuel := fuel) (n0 := TS.T.length) (A := some A) (x4 := none) (x5 := y5) (x6 := y6) (x7 := y7) (x8 := y8) (x9 := y9) (x10 := y10) (x11 := none) (i := i) eo ho ea ha em hm ek hk h (by omega) (by omega)
        have ei : (0 : Int) + (i : Int) = (i : Int) := by omega
        refine ⟨_, rfl, .inl ⟨[some A, some (.loc TS.T.length), some (.lst things01), some (.int (i : Int)), none, z5, z6, z7, z8, z9, z10, none], S', ?_, some (.int (i : Int)), z5, z6, z7, z8, z9, z10, rfl, h'.mono (by omega)⟩⟩
        show exSs Φ Φf G fuel TS.T.length lLap01 [some A, some (.loc TS.T.length), some (.lst things01), some (.int (0 + (i : Int))), none, y5, y6, y7, y8, y9, y10, none] S = _
        rw [ei]
        exact e
      · rintro Γ S ⟨y3, y5, y6, y7, y8, y9, y10, rfl, h⟩
        rw [rng_len] at h
        exact ⟨y3, y5, y6, y7, y8, y9, y10, S, rfl, h.mono (by omega)⟩
    obtain ⟨a, b, c, d, f, g, k, S', e, h⟩ := key
    refine ⟨a, b, c, d, f, g, k, S', ?_, h⟩
    rw [exS, evs, mi]
    dsimp only
    rw [evs]
    show (match itD .rng [.int ((4 + min ns.length 8 : Nat) : Int)] with | some items => loopN (exSs Φ Φf G fuel TS.T.length lLap01) (.one 3) items _ S0 | none => SR.bad) = _
    rw [rg]
    exact e
  obtain ⟨y3, y5, y6, y7, y8, y9, y10, S', s4, cs, l', s', hS', _, _, _⟩ := s4
  rw [hR] at hS'
  subst hS'
  have ft : ∀ o : Option D, ∃ o', thaw1 TS.T.length (.dic (dr cs l' s')) o = o' := fun o => ⟨_, rfl⟩
  obtain ⟨z3, e3⟩ := ft y3
  obtain ⟨z5, e5⟩ := ft y5
  obtain ⟨z6, e6⟩ := ft y6
  obtain ⟨z7, e7⟩ := ft y7
  obtain ⟨z8, e8⟩ := ft y8
  obtain ⟨z9, e9⟩ := ft y9
  obtain ⟨z10, e10⟩ := ft y10
  obtain ⟨z0, e0⟩ := ft (some A)
  have s5 : exS Φ Φf G fuel TS.T.length (.frz 1) [some A, some (.loc TS.T.length), some (.lst things01), y3, none, y5, y6, y7, y8, y9, y10, none] (TS.T ++ [.dic (dr cs l' s')]) = .next [z0, some (.dic (dr cs l' s')), some (.lst things01), z3, none, z5, z6, z7, z8, z9, z10, none] TS.T := by
    generalize things01 = s
    simp [e0, e3, e5, e6, e7, e8, e9, e10]
  have bs := hm.base TS.T
  have b0 : (dueE 11 |>.take 11 |>.append [.bl true, .bl true, .bl false, .bl false]) = due0 := rfl
  rw [b0] at bs
  have g1 : isFn "EvenError" (G "EvenError") = true := by rw [hg.1]; exact isFn_self
  have mv : ∀ Γ, ev Φ G (.mk0 "EvenError" (.con (.str [97, 110, 121]))) Γ TS.T = .ok (.exc "EvenError" []) TS.T := fun Γ => by
    have gg : isFn "EvenError" (G "EvenError") = true ∧ ("EvenError" : Str) = "EvenError" := ⟨g1, rfl⟩
    rw [ev, if_pos gg]
    rfl
  have dv : ∀ Γ, ev Φ G eDue0 Γ TS.T = .ok (.lst due0) TS.T := fun Γ => by
    have m : mulD (.lst [.bl false]) (.int 11) = some (.lst (List.replicate 11 (.bl false))) := by rfl
    have a : addD (.lst (List.replicate 11 (.bl false))) (.lst [.bl true, .bl true, .bl false, .bl false]) = some (.lst due0) := rfl
    generalize due0 = L at *
    generalize List.replicate 11 (D.bl false) = R at *
    simp [eDue0, m, a, hz]
  have eq : cmpD .Eq (.lst due0) (.lst due0) = some (.bl true) := ceq_ok (n := 1) rfl (by omega)
  have nx : noLoc (D.exc "EvenError" []) = true := rfl
  show outR TS.T.length (exSs Φ Φf G fuel TS.T.length bLaw01 [some A, none, none, none, none, none, none, none, none, none, none, none] TS.T) = _
  unfold bLaw01
  rw [exSs, s1, then_next, exSs, s2, then_next, exSs, s4, then_next, exSs, s5, then_next]
  generalize things01 = s at *
  generalize due0 = L at *
  generalize D.exc "EvenError" [] = X at *
  generalize CE.mk0 "EvenError" (.con (.str [97, 110, 121])) = C at *
  generalize eDue0 = E at *
  simp [mv, dv, em, bs, eq, nx]
end
end EK

set_option Elab.async false
set_option linter.all false
set_option maxRecDepth 100000
set_option maxHeartbeats 4000000
namespace EK.K01
open PySem L2 PySem.Spec PyProof.Rows
def top (i : Nat) : Stmt := PySem.Challenge.pw_evenkept_k01_errors.main.body.getD i (.Pass ⟨0, 0, 0, 0⟩)
def Gt : List (Str × D) := [("BadLine", .fn "BadLine"), ("BadName", .fn "BadName"), ("BadNumber", .fn "BadNumber"), ("BadPaper", .fn "BadPaper"), ("BadReplacement", .fn "BadReplacement"), ("BadRow", .fn "BadRow"), ("BadSurd", .fn "BadSurd"), ("BadText", .fn "BadText"), ("BadWord", .fn "BadWord"), ("EvenError", .fn "EvenError"), ("Nothing", .fn "Nothing"), ("TooLong", .fn "TooLong")]
def G : Str → Option D := fun x => Gt.lookup x
def Φ0 : Str → Option Fsem := fun _ => none
def LS : List LamD := []
theorem LS_self : selfB LS = true := by decide +kernel
theorem fd__law_begun : LS.find? (fun p => decide (p.nm = (defScope (top 14)).names)) = none := by kernel_rfl
theorem fd__law_draw : LS.find? (fun p => decide (p.nm = (defScope (top 15)).names)) = none := by kernel_rfl
theorem fd__law_of : LS.find? (fun p => decide (p.nm = (defScope (top 16)).names)) = none := by kernel_rfl
theorem fd__law_made : LS.find? (fun p => decide (p.nm = (defScope (top 17)).names)) = none := by kernel_rfl
theorem fd__law_marks : LS.find? (fun p => decide (p.nm = (defScope (top 18)).names)) = none := by kernel_rfl
theorem fd__law_kept : LS.find? (fun p => decide (p.nm = (defScope (top 19)).names)) = none := by kernel_rfl
theorem fd_law : LS.find? (fun p => decide (p.nm = (defScope (top 20)).names)) = none := by kernel_rfl
def N__law_begun : List Str := ["_law_script", "_law_great", "_law_cell"]
def P__law_begun : List Str := ["_law_script"]
def b__law_begun : List CS := [.set (.one 1) (.lc (.var 2) (.one 2) .seq [.var 0] (.cmp .GtE (.var 2) (.bin .Pow (.con (.int 10)) (.con (.int 18)))) [("_law_cell", 2)]),
  .retF (.dic [.inr "cells", .inr "left", .inr "spot"] [.bin .Add (.blt .list [.var 0]) (.lst [.blt .len [.var 0]]), .ite (.cmp .NotEq (.var 1) (.lst [])) (.idx (.var 1) (.con (.int 0))) (.con (.int 0)), .con (.int 0)])]
theorem c__law_begun : chkSs N__law_begun (defScope (top 14)) b__law_begun (defBody (top 14)) = true := by decide +kernel
theorem sc__law_begun : FnScope N__law_begun P__law_begun (defScope (top 14)) := ⟨rfl, rfl, rfl, by decide +kernel, rfl, by decide +kernel, by decide +kernel⟩
def F__law_begun : Fsem := fsemF Φ0 Φ0 G 1000000 1 3 b__law_begun
def Φf__law_begun : Str → Option Fsem := put Φ0 "_law_begun" F__law_begun

def N__law_draw : List Str := ["_law_m", "_law_limit", "_law_spot", "_law_cell", "_law_mixed", "_law_found"]
def P__law_draw : List Str := ["_law_m", "_law_limit"]
def b__law_draw : List CS := [.ite (.cmp .Gt (.idx (.var 0) (.con (.str [108, 101, 102, 116]))) (.con (.int 0))) [.set (.one 5) (.bin .Mod (.blt .int [.idx (.var 0) (.con (.str [108, 101, 102, 116]))]) (.var 1)),
  .putD 0 (.con (.str [108, 101, 102, 116])) (.bin .FloorDiv (.idx (.var 0) (.con (.str [108, 101, 102, 116]))) (.var 1)),
  .ret (.var 5)] [],
  .set (.one 2) (.bin .Add (.idx (.var 0) (.con (.str [115, 112, 111, 116]))) (.con (.int 1))),
  .putD 0 (.con (.str [115, 112, 111, 116])) (.var 2),
  .set (.one 3) (.idx (.idx (.var 0) (.con (.str [99, 101, 108, 108, 115]))) (.bin .Mod (.blt .int [.var 2]) (.blt .len [.idx (.var 0) (.con (.str [99, 101, 108, 108, 115]))]))),
  .set (.one 4) (.bin .Mult (.blt .int [.bin .Add (.bin .Add (.bin .Mod (.blt .int [.var 3]) (.con (.int 2147483629))) (.bin .Mult (.con (.int 6133)) (.var 2))) (.bin .Mult (.bin .Mult (.con (.int 23)) (.var 2)) (.var 2))]) (.con (.int 48271))),
  .set (.one 4) (.bin .Mult (.blt .int [.bin .Add (.bin .Mod (.blt .int [.var 4]) (.con (.int 2147483647))) (.bin .Mult (.con (.int 93241)) (.var 2))]) (.con (.int 69621))),
  .ret (.bin .Mod (.blt .int [.bin .FloorDiv (.bin .Mod (.blt .int [.var 4]) (.con (.int 2147483587))) (.con (.int 13))]) (.var 1))]
theorem c__law_draw : chkSs N__law_draw (defScope (top 15)) b__law_draw (defBody (top 15)) = true := by decide +kernel
theorem sc__law_draw : FnScope N__law_draw P__law_draw (defScope (top 15)) := ⟨rfl, rfl, rfl, by decide +kernel, rfl, by decide +kernel, by decide +kernel⟩
def F__law_draw : Fsem := fsem Φ0 Φf__law_begun G 1000000 2 6 b__law_draw
def Φ__law_draw : Str → Option Fsem := put Φ0 "_law_draw" F__law_draw

def N__law_of : List Str := ["_law_m", "_law_some"]
def P__law_of : List Str := ["_law_m", "_law_some"]
def b__law_of : List CS := [.ret (.idx (.var 1) (.call "_law_draw" [.var 0, .blt .len [.var 1]]))]
theorem c__law_of : chkSs N__law_of (defScope (top 16)) b__law_of (defBody (top 16)) = true := by decide +kernel
theorem sc__law_of : FnScope N__law_of P__law_of (defScope (top 16)) := ⟨rfl, rfl, rfl, by decide +kernel, rfl, by decide +kernel, by decide +kernel⟩
def F__law_of : Fsem := fsem Φ__law_draw Φf__law_begun G 1000000 2 2 b__law_of
def Φ__law_of : Str → Option Fsem := put Φ__law_draw "_law_of" F__law_of

def N__law_made : List Str := ["_law_thing", "_law_found"]
def P__law_made : List Str := ["_law_thing"]
def b__law_made : List CS := [.set (.one 1) (.lst [.tup [.con (.int 0), .mk "BadWord" (.var 0), .mkk "BadWord" "value" (.var 0)], .tup [.con (.int 1), .mk "BadReplacement" (.var 0), .mkk "BadReplacement" "number" (.var 0)]]),
  .set (.one 1) (.bin .Add (.var 1) (.lst [.tup [.con (.int 2), .mk "BadRow" (.var 0), .mkk "BadRow" "number" (.var 0)], .tup [.con (.int 3), .mk "BadNumber" (.var 0), .mkk "BadNumber" "value" (.var 0)]])),
  .set (.one 1) (.bin .Add (.var 1) (.lst [.tup [.con (.int 4), .mk "BadName" (.var 0), .mkk "BadName" "value" (.var 0)], .tup [.con (.int 5), .mk "BadSurd" (.var 0), .mkk "BadSurd" "value" (.var 0)]])),
  .set (.one 1) (.bin .Add (.var 1) (.lst [.tup [.con (.int 6), .mk "BadLine" (.var 0), .mkk "BadLine" "part" (.var 0)], .tup [.con (.int 7), .mk "BadPaper" (.var 0), .mkk "BadPaper" "part" (.var 0)]])),
  .set (.one 1) (.bin .Add (.var 1) (.lst [.tup [.con (.int 8), .mk "BadText" (.var 0), .mkk "BadText" "line" (.var 0)], .tup [.con (.int 9), .mk "TooLong" (.var 0), .mkk "TooLong" "most" (.var 0)]])),
  .ret (.bin .Add (.var 1) (.lst [.tup [.con (.int 10), .mk "Nothing" (.var 0), .mkk "Nothing" "value" (.var 0)]]))]
theorem c__law_made : chkSs N__law_made (defScope (top 17)) b__law_made (defBody (top 17)) = true := by decide +kernel
theorem sc__law_made : FnScope N__law_made P__law_made (defScope (top 17)) := ⟨rfl, rfl, rfl, by decide +kernel, rfl, by decide +kernel, by decide +kernel⟩
def F__law_made : Fsem := fsem Φ__law_of Φf__law_begun G 1000000 1 2 b__law_made
def Φ__law_made : Str → Option Fsem := put Φ__law_of "_law_made" F__law_made

def N__law_marks : List Str := ["_law_error", "_law_found"]
def P__law_marks : List Str := ["_law_error"]
def b__law_marks : List CS := [.set (.one 1) (.lst [.isc (.var 0) "BadWord", .isc (.var 0) "BadReplacement", .isc (.var 0) "BadRow"]),
  .set (.one 1) (.bin .Add (.var 1) (.lst [.isc (.var 0) "BadNumber", .isc (.var 0) "BadName", .isc (.var 0) "BadSurd"])),
  .set (.one 1) (.bin .Add (.var 1) (.lst [.isc (.var 0) "BadLine", .isc (.var 0) "BadPaper", .isc (.var 0) "BadText"])),
  .set (.one 1) (.bin .Add (.var 1) (.lst [.isc (.var 0) "TooLong", .isc (.var 0) "Nothing", .isc (.var 0) "EvenError"])),
  .ret (.bin .Add (.var 1) (.lst [.isb (.var 0) "ValueError", .isb (.var 0) "OverflowError", .isb (.var 0) "LookupError"]))]
theorem c__law_marks : chkSs N__law_marks (defScope (top 18)) b__law_marks (defBody (top 18)) = true := by decide +kernel
theorem sc__law_marks : FnScope N__law_marks P__law_marks (defScope (top 18)) := ⟨rfl, rfl, rfl, by decide +kernel, rfl, by decide +kernel, by decide +kernel⟩
def F__law_marks : Fsem := fsem Φ__law_made Φf__law_begun G 1000000 1 2 b__law_marks
def Φ__law_marks : Str → Option Fsem := put Φ__law_made "_law_marks" F__law_marks

def N__law_kept : List Str := ["_law_place", "_law_error"]
def P__law_kept : List Str := ["_law_place", "_law_error"]
def b__law_kept : List CS := [.ite (.cmp .In (.var 0) (.tup [.con (.int 1), .con (.int 2)])) [.ret (.att (.var 1) "number")] [],
  .ite (.cmp .In (.var 0) (.tup [.con (.int 6), .con (.int 7)])) [.ret (.att (.var 1) "part")] [],
  .ite (.cmp .Eq (.var 0) (.con (.int 8))) [.ret (.att (.var 1) "line")] [],
  .ret (.ite (.cmp .Eq (.var 0) (.con (.int 9))) (.att (.var 1) "most") (.att (.var 1) "value"))]
theorem c__law_kept : chkSs N__law_kept (defScope (top 19)) b__law_kept (defBody (top 19)) = true := by decide +kernel
theorem sc__law_kept : FnScope N__law_kept P__law_kept (defScope (top 19)) := ⟨rfl, rfl, rfl, by decide +kernel, rfl, by decide +kernel, by decide +kernel⟩
def F__law_kept : Fsem := fsem Φ__law_marks Φf__law_begun G 1000000 2 2 b__law_kept
def Φ__law_kept : Str → Option Fsem := put Φ__law_marks "_law_kept" F__law_kept

def N_law : List Str := ["_law_script", "_law_m", "_law_things", "_law_lap", "_law_base", "_law_thing", "_law_place", "_law_one", "_law_other", "_law_due", "_law_error", "_law_spot"]
def P_law : List Str := ["_law_script"]
def b_law : List CS := [.own 1 (.call "_law_begun" [.var 0]),
  .set (.one 2) (.lst [.con .non, .con (.int 0), .con (.bl true), .neg (.con (.int 7)), .bin .Pow (.con (.int 10)) (.con (.int 30)), .con (.str []), .con (.str [111, 119, 110]), .con (.str [97, 98]), .tup [], .tup [.con (.int 1), .con (.str [98])], .tup [.tup []], .lst [.con (.int 1), .lst [.con (.int 2)]], .dic [] [], .dic [.inr "a"] [.con (.int 1)]]),
  .loop (.one 3) .rng [.bin .Add (.con (.int 4)) (.blt .min [.blt .len [.var 0], .con (.int 8)])] [.set (.one 5) (.ite (.cmp .Lt (.var 3) (.con (.int 2))) (.idx (.var 2) (.var 3)) (.call "_law_of" [.var 1, .var 2])),
  .loop (.many [6, 7, 8]) .seq [.call "_law_made" [.var 5]] [.set (.one 9) (.bin .Add (.lc (.cmp .Eq (.var 11) (.var 6)) (.one 11) .rng [.con (.int 11)] (.con (.bl true)) [("_law_spot", 11)]) (.lst [.cmp .Lt (.var 6) (.con (.int 9)), .cmp .Lt (.var 6) (.con (.int 9)), .cmp .Eq (.var 6) (.con (.int 9)), .cmp .Eq (.var 6) (.con (.int 10))])),
  .loop (.one 10) .seq [.tup [.var 7, .var 8]] [.ite (.or (.cmp .NotEq (.call "_law_marks" [.var 10]) (.var 9)) (.cmp .NotEq (.blt .repr [.call "_law_kept" [.var 6, .var 10]]) (.blt .repr [.var 5]))) [.ret (.con (.bl false))] []]]],
  .frz 1,
  .set (.one 4) (.mk0 "EvenError" (.con (.str [97, 110, 121]))),
  .ret (.cmp .Eq (.call "_law_marks" [.var 4]) (.bin .Add (.bin .Mult (.lst [.con (.bl false)]) (.con (.int 11))) (.lst [.con (.bl true), .con (.bl true), .con (.bl false), .con (.bl false)])))]
theorem c_law : chkSs N_law (defScope (top 20)) b_law (defBody (top 20)) = true := by decide +kernel
theorem sc_law : FnScope N_law P_law (defScope (top 20)) := ⟨rfl, rfl, rfl, by decide +kernel, rfl, by decide +kernel, by decide +kernel⟩
def F_law : Fsem := fsem Φ__law_kept Φf__law_begun G 1000000 1 12 b_law
def Φ_law : Str → Option Fsem := put Φ__law_kept "law" F_law

/-! ### the head -/
def d__law_begun : He.DefD := ⟨("_law_begun", none), "_law_begun", "_law_begun", defArgs (top 14), defBody (top 14), defScope (top 14), [], []⟩
def d__law_draw : He.DefD := ⟨("_law_draw", none), "_law_draw", "_law_draw", defArgs (top 15), defBody (top 15), defScope (top 15), [], []⟩
def d__law_of : He.DefD := ⟨("_law_of", none), "_law_of", "_law_of", defArgs (top 16), defBody (top 16), defScope (top 16), [], []⟩
def d__law_made : He.DefD := ⟨("_law_made", none), "_law_made", "_law_made", defArgs (top 17), defBody (top 17), defScope (top 17), [], []⟩
def d__law_marks : He.DefD := ⟨("_law_marks", none), "_law_marks", "_law_marks", defArgs (top 18), defBody (top 18), defScope (top 18), [], []⟩
def d__law_kept : He.DefD := ⟨("_law_kept", none), "_law_kept", "_law_kept", defArgs (top 19), defBody (top 19), defScope (top 19), [], []⟩
def d_law : He.DefD := ⟨("law", none), "law", "law", defArgs (top 20), defBody (top 20), defScope (top 20), [], []⟩
def fn : List He.DefD := [d__law_begun, d__law_draw, d__law_of, d__law_made, d__law_marks, d__law_kept, d_law]
def fa1 : List He.Fa := [.glo "_law_begun", .glo "_law_draw", .glo "_law_of", .glo "_law_made", .glo "_law_marks", .glo "_law_kept", .glo "law"]
def fa2 : List He.Fa := bltNames.map .free
def fa3 : List He.Fa := [.free "MEANT"]
def fa : List He.Fa := fa1 ++ (fa2 ++ fa3)
def loose : List Str := [("__name__" : Str), ("EvenError" : Str), ("BadWord" : Str), ("BadReplacement" : Str), ("BadRow" : Str), ("BadNumber" : Str), ("BadName" : Str), ("BadSurd" : Str), ("BadLine" : Str), ("BadPaper" : Str), ("BadText" : Str), ("TooLong" : Str), ("Nothing" : Str), ("_law_begun" : Str), ("_law_draw" : Str), ("_law_of" : Str), ("_law_made" : Str), ("_law_marks" : Str), ("_law_kept" : Str)]
abbrev R : PySem.W.OpenRow := PySem.W.OpenLaw.row PySem.Challenge.rw_evenkept_k01_errors
abbrev exK (K : PySem.W.Frag) : Bool := EK.consK Gt K && EK.clsB false PySem.Challenge.rw_evenkept_k01_errors.prog K
abbrev hk : PySem.W.Hook := EK.hookT 4 fa fn exK [] (LS.map (·.name))
def ob (s : PySem.W.SharedT) : EK.AlT := EK.obsT 4 fa fn exK [] (LS.map (·.name)) (HandSHeadRun.getT s)
theorem ob_eq (s : PySem.W.SharedT) : ob s = hk.obs s.abs := EK.obsT_eq (HandSHeadRun.getT_eq s)
theorem run (w : World) : HandSHeadRun.RunEq R (PySem.W.view R.prog [20]) hk ob 4000 loose w := by
  intro os
  kernel_rfl
section
variable {w : World} {h base : Heap} {mg : Str → Option Value} {K : PySem.W.Frag}
theorem levels (X : K.In h) (Gx : h.Ns mainGlobals mg) (c : EK.SaysT fa fn exK [] (LS.map (·.name)) w K h) (tb : ∀ p ∈ csOf K LS, LamX.TabB base mg p.1 p.2) : Lev PySem.Challenge.rw_evenkept_k01_errors.prog w ⟨K, mg, fldT, tbOf K LS⟩ base 22 Φ_law Φf__law_begun G ∧ ∃ fd, mg "law" = some (.ref (He.fAd K ("law", none))) ∧ FunD K "law" "law" (defArgs (top 20)) (defBody (top 20)) (defScope (top 20)) [] [] (He.fAd K ("law", none)) fd ∧ FnG PySem.Challenge.rw_evenkept_k01_errors.prog w K mg base (L2.CX PySem.Challenge.rw_evenkept_k01_errors.prog w) 22 (He.fAd K ("law", none)) fd P_law (spD ⟨K, mg, fldT, tbOf K LS⟩ F_law) := by
  have more : (EK.consK Gt K && EK.clsB false PySem.Challenge.rw_evenkept_k01_errors.prog K) = true := c.e.more
  obtain ⟨m1, m2⟩ := and2 more
  obtain ⟨m2, m4⟩ := and2 m2
  obtain ⟨m2, m3⟩ := and2 m2
  obtain ⟨m0, m2⟩ := and2 m2
  have l0 : Lev PySem.Challenge.rw_evenkept_k01_errors.prog w ⟨K, mg, fldT, tbOf K LS⟩ base 1 Φ0 Φ0 G := ⟨Nat.le_refl 1, EK.tabs_none (He.free_ok X Gx (c.e.d.fact 31 (f := .free "MEANT") rfl)), xcsB_ok X Gx m2, subB_ok X Gx m3, rfl, smB_ok m0, (fun Fo Fw e => by cases e), free_of (fa1 := fa1) (fa3 := fa3) X Gx c.e.d, EK.consK_ok X Gx m1, (fun x F e => by cases e), (fun x F e => by cases e)⟩
  obtain ⟨fd0, F0⟩ := c.e.d.def_ 0 (d := d__law_begun) rfl
  have g0 := He.glo_ok X Gx (c.e.d.fact 0 (f := .glo "_law_begun") rfl)
  have b0 := FunD.bindsN (ps := P__law_begun) F0 fun _ _ _ _ _ _ us hl => match us, hl with | [_], _ => rfl
  have t0 : TabH ⟨K, mg, fldT, tbOf K LS⟩ base "_law_begun" (defScope (top 14)) (He.fAd K ("_law_begun", none)) := tabH_no fd__law_begun
  have l1 := l0.putF F0 g0 b0 sc__law_begun t0 1000000 b__law_begun c__law_begun
  obtain ⟨fd1, F1⟩ := c.e.d.def_ 1 (d := d__law_draw) rfl
  have g1 := He.glo_ok X Gx (c.e.d.fact 1 (f := .glo "_law_draw") rfl)
  have b1 := FunD.bindsN (ps := P__law_draw) F1 fun _ _ _ _ _ _ us hl => match us, hl with | [_, _], _ => rfl
  have b1 := FunD.bindsX0 (x := "_law_draw") b1 (by decide +kernel)
  have t1 : TabH ⟨K, mg, fldT, tbOf K LS⟩ base "_law_draw" (defScope (top 15)) (He.fAd K ("_law_draw", none)) := tabH_no fd__law_draw
  have l2 := l1.put F1 g1 b1 sc__law_draw t1 ⟨by decide +kernel, fun z => absurd z (by decide +kernel)⟩ 1000000 b__law_draw c__law_draw
  obtain ⟨fd2, F2⟩ := c.e.d.def_ 2 (d := d__law_of) rfl
  have g2 := He.glo_ok X Gx (c.e.d.fact 2 (f := .glo "_law_of") rfl)
  have b2 := FunD.bindsN (ps := P__law_of) F2 fun _ _ _ _ _ _ us hl => match us, hl with | [_, _], _ => rfl
  have b2 := FunD.bindsX0 (x := "_law_of") b2 (by decide +kernel)
  have t2 : TabH ⟨K, mg, fldT, tbOf K LS⟩ base "_law_of" (defScope (top 16)) (He.fAd K ("_law_of", none)) := tabH_no fd__law_of
  have l3 := l2.put F2 g2 b2 sc__law_of t2 ⟨by decide +kernel, fun z => absurd z (by decide +kernel)⟩ 1000000 b__law_of c__law_of
  obtain ⟨fd3, F3⟩ := c.e.d.def_ 3 (d := d__law_made) rfl
  have g3 := He.glo_ok X Gx (c.e.d.fact 3 (f := .glo "_law_made") rfl)
  have b3 := FunD.bindsN (ps := P__law_made) F3 fun _ _ _ _ _ _ us hl => match us, hl with | [_], _ => rfl
  have b3 := FunD.bindsX0 (x := "_law_made") b3 (by decide +kernel)
  have t3 : TabH ⟨K, mg, fldT, tbOf K LS⟩ base "_law_made" (defScope (top 17)) (He.fAd K ("_law_made", none)) := tabH_no fd__law_made
  have l4 := l3.put F3 g3 b3 sc__law_made t3 ⟨by decide +kernel, fun z => absurd z (by decide +kernel)⟩ 1000000 b__law_made c__law_made
  obtain ⟨fd4, F4⟩ := c.e.d.def_ 4 (d := d__law_marks) rfl
  have g4 := He.glo_ok X Gx (c.e.d.fact 4 (f := .glo "_law_marks") rfl)
  have b4 := FunD.bindsN (ps := P__law_marks) F4 fun _ _ _ _ _ _ us hl => match us, hl with | [_], _ => rfl
  have b4 := FunD.bindsX0 (x := "_law_marks") b4 (by decide +kernel)
  have t4 : TabH ⟨K, mg, fldT, tbOf K LS⟩ base "_law_marks" (defScope (top 18)) (He.fAd K ("_law_marks", none)) := tabH_no fd__law_marks
  have l5 := l4.put F4 g4 b4 sc__law_marks t4 ⟨by decide +kernel, fun z => absurd z (by decide +kernel)⟩ 1000000 b__law_marks c__law_marks
  obtain ⟨fd5, F5⟩ := c.e.d.def_ 5 (d := d__law_kept) rfl
  have g5 := He.glo_ok X Gx (c.e.d.fact 5 (f := .glo "_law_kept") rfl)
  have b5 := FunD.bindsN (ps := P__law_kept) F5 fun _ _ _ _ _ _ us hl => match us, hl with | [_, _], _ => rfl
  have b5 := FunD.bindsX0 (x := "_law_kept") b5 (by decide +kernel)
  have t5 : TabH ⟨K, mg, fldT, tbOf K LS⟩ base "_law_kept" (defScope (top 19)) (He.fAd K ("_law_kept", none)) := tabH_no fd__law_kept
  have l6 := l5.put F5 g5 b5 sc__law_kept t5 ⟨by decide +kernel, fun z => absurd z (by decide +kernel)⟩ 1000000 b__law_kept c__law_kept
  obtain ⟨fd6, F6⟩ := c.e.d.def_ 6 (d := d_law) rfl
  have g6 := He.glo_ok X Gx (c.e.d.fact 6 (f := .glo "law") rfl)
  have b6 := FunD.bindsN (ps := P_law) F6 fun _ _ _ _ _ _ us hl => match us, hl with | [_], _ => rfl
  have b6 := FunD.bindsX0 (x := "law") b6 (by decide +kernel)
  have t6 : TabH ⟨K, mg, fldT, tbOf K LS⟩ base "law" (defScope (top 20)) (He.fAd K ("law", none)) := tabH_no fd_law
  have ok := fn_ok l6 F6 sc_law t6 1000000 (cs := b_law) c_law
  have l7 := l6.put F6 g6 b6 sc_law t6 ⟨by decide +kernel, fun z => absurd z (by decide +kernel)⟩ 1000000 b_law c_law
  exact ⟨l7, fd6, g6, F6, ok⟩
end
end EK.K01

set_option Elab.async false
set_option linter.all false
set_option maxRecDepth 100000
set_option maxHeartbeats 4000000
namespace EK.K01
open PySem L2 PySem.Spec PyProof.Rows
instance ts : TS := ⟨stOf LS, []⟩
theorem goE : GoE G := by
  refine ⟨rfl, fun p hp => ?_⟩
  simp only [clsE, List.mem_cons, List.not_mem_nil, or_false] at hp
  rcases hp with rfl | rfl | rfl | rfl | rfl | rfl | rfl | rfl | rfl | rfl | rfl <;> rfl
theorem ok_draw : DrawOk F__law_draw := drawOk
theorem ok_of : OfOk F__law_of := ofOk rfl ok_draw
theorem ok_made : MaE F__law_made := maE goE
theorem ok_marks : MkE F__law_marks := mkE goE
theorem ok_kept : KeE F__law_kept := keE
theorem b_law_eq : b_law = bLaw01 := rfl
theorem law_ok (ns : List Int) (hn : ns.length ≤ 63) : ∃ S, F_law [.frz (ns.map .int)] (stOf LS) = .ok (.bl true) S :=
  ⟨TS.T, law01 goE rfl rfl (fun ns h => begun_ok (Φ := Φ0) (Φf := Φ0) (G := G) (fuel := 1000000) ns TS.T h) rfl ok_of rfl ok_made rfl ok_marks rfl ok_kept ns hn⟩
end EK.K01

set_option Elab.async false
set_option linter.all false
set_option maxRecDepth 100000
set_option maxHeartbeats 4000000
namespace EK.K01
section
open PySem PySem.W PySem.Calls PyProof.Rows L2 HandSHeadRun
theorem z_e : opening (OpenLaw.row PySem.Challenge.rw_evenkept_k01_errors).prog = plainProg (OpenLaw.row PySem.Challenge.rw_evenkept_k01_errors).prog.main.scope.names := by kernel_rfl
theorem z_f : ∀ s, fenceModules? (OpenLaw.row PySem.Challenge.rw_evenkept_k01_errors).prog s = some s := fun s => by kernel_rfl
theorem z_def : defOf (view (OpenLaw.row PySem.Challenge.rw_evenkept_k01_errors).prog [20]) (OpenLaw.row PySem.Challenge.rw_evenkept_k01_errors).name = some (HandSHeadRun.topDef (OpenLaw.row PySem.Challenge.rw_evenkept_k01_errors).prog 20, []) := by kernel_rfl
theorem z_hp : (OpenLaw.row PySem.Challenge.rw_evenkept_k01_errors).prog.theDef (OpenLaw.row PySem.Challenge.rw_evenkept_k01_errors).name = some ((HandSHeadRun.topDef (OpenLaw.row PySem.Challenge.rw_evenkept_k01_errors).prog 20).params, (HandSHeadRun.topDef (OpenLaw.row PySem.Challenge.rw_evenkept_k01_errors).prog 20).body, (HandSHeadRun.topDef (OpenLaw.row PySem.Challenge.rw_evenkept_k01_errors).prog 20).scope) := by kernel_rfl
theorem z_kw : kwWritten? (HandSHeadRun.topDef (OpenLaw.row PySem.Challenge.rw_evenkept_k01_errors).prog 20).params.kwonlyargs (HandSHeadRun.topDef (OpenLaw.row PySem.Challenge.rw_evenkept_k01_errors).prog 20).params.kw_defaults = some [] := by kernel_rfl
theorem z_ok : (chainsOk (view (OpenLaw.row PySem.Challenge.rw_evenkept_k01_errors).prog [20]) && opensWell (OpenLaw.row PySem.Challenge.rw_evenkept_k01_errors).prog && (frees (OpenLaw.row PySem.Challenge.rw_evenkept_k01_errors).toRowW && (OpenLaw.row PySem.Challenge.rw_evenkept_k01_errors).within.isEmpty)) = true := by decide +kernel
theorem z_bare : (OpenLaw.row PySem.Challenge.rw_evenkept_k01_errors).prog.bare := ⟨rfl, rfl, rfl, rfl, rfl, by decide +kernel⟩
theorem z_nm : (HandSHeadRun.topDef (OpenLaw.row PySem.Challenge.rw_evenkept_k01_errors).prog 20).name = ("law" : PySem.Str) := by kernel_rfl
end
end EK.K01
open PySem PySem.W PySem.Calls PyProof.Rows L2
theorem K01_of (hlaw : ∀ ns : List Int, ns.length ≤ 63 → ∃ S, EK.K01.F_law [.frz (ns.map .int)] (EK.stOf EK.K01.LS) = .ok (.bl true) S) : PySem.Challenge.rw_evenkept_k01_errors.Holds := by
  w_on; o_law
  refine HandSHeadRun.head_any (r := OpenLaw.row PySem.Challenge.rw_evenkept_k01_errors) (q := view (OpenLaw.row PySem.Challenge.rw_evenkept_k01_errors).prog [20]) (H := EK.K01.hk) (ob := EK.K01.ob) (M := 4000) (loose := EK.K01.loose) (d := HandSHeadRun.topDef (OpenLaw.row PySem.Challenge.rw_evenkept_k01_errors).prog 20) (kwd := []) EK.K01.ob_eq
    EK.K01.z_e EK.K01.z_f EK.K01.run EK.K01.z_def EK.K01.z_hp EK.K01.z_kw (by rfl) (by first | assumption | decide +kernel) EK.K01.z_ok EK.K01.z_bare ?hw ?hc
  case hw => w_witness2
  case hc =>
    refine EK.walk_ofT (l := PySem.Challenge.rw_evenkept_k01_errors) (n := 63) (k := 22) (x := "_law_script") (Xc := L2.CX0) rfl (by decide) (by kernel_rfl) ⟨⟨rfl, by decide, by decide⟩, rfl⟩ ?F (fun _ _ _ _ z => z)
    intro w mg fa h Y Gx hmg0
    obtain ⟨K, KX, c⟩ := Y
    have hmg : mg ("law" : PySem.Str) = some (.ref fa) := by
      have e := EK.K01.z_nm
      rw [← e]
      exact hmg0
    have g := He.glo_ok KX Gx (c.e.d.fact 6 (f := .glo "law") rfl)
    obtain ⟨fd, F⟩ := c.e.d.def_ 6 (d := EK.K01.d_law) rfl
    have e := hmg.symm.trans g
    cases e
    have b := L2.FunD.bindsA (ps := EK.K01.P_law) F fun _ _ _ _ _ _ us hl => match us, hl with | [_], _ => rfl
    refine ⟨K, fd, (fun vs H Q _ => EK.spD ⟨K, mg, EK.fldT, EK.tbOf K EK.K01.LS⟩ EK.K01.F_law vs H Q fun _ _ _ => False), EK.csOf K EK.K01.LS, KX, c.tabs KX, fun s v => b s [v] rfl, fun H a ns hl inT na hS => EK.law_spT c EK.K01.LS_self (hlaw ns hl) inT na hS, fun base hb1 hb2 tb => ?_⟩
    obtain ⟨_, fd2, _, F2, ok⟩ := EK.K01.levels (base := base) KX Gx c tb
    have hfd : fd2 = fd := EK.fd_uniq F F2
    rw [hfd] at ok
    exact EK.FnG.calm (C := ⟨K, mg, EK.fldT, EK.tbOf K EK.K01.LS⟩) ok

set_option maxRecDepth 100000 in
set_option maxHeartbeats 8000000 in
theorem PySem.Challenge.cw_evenkept_k01_errors_holds : PySem.Challenge.rw_evenkept_k01_errors.Holds := by
  exact K01_of EK.K01.law_ok
