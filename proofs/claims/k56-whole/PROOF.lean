import PyProof.Rows.All
import Wide.All
import OpenK.AllK
import Wide.FinOn
import HandS.ForExc
import HandS.ForMost
import KE.KExcSuper
import HandS.ExcInit
import KE.KExcIs
import HandS.ExcField
import HandS.Defaults
import HandS.HeadHook1
import HandS.HeadHook2
import HandS.Property
import KE.KStateDown
import Lean
import HandS.Head0
import HandS.Head1
import HandS.Head2
import HandS.HeadEnd
import PyProof.NeKinds
import PyProof.TupleOfSeq
import KE.GoesEnum
import KE.GoesMore
import HandS.Evl
import HandS.Style
import HandS.More
import HandS.IsInst
import HandS.Steps
import HandS.WordsExc
import HandS.TupAny
import HandS.Text
import PySem.Challenge.RW_smallcourt_k56_whole_wrong_texts_located
set_option Elab.async false
set_option linter.all false
set_option maxRecDepth 100000
set_option maxHeartbeats 4000000
/-! K56, part A0: the text by places. -/
namespace K56
open PySem L2
def top (i : Nat) : Stmt := PySem.Challenge.pw_smallcourt_k56_whole_wrong_texts_located.main.body.getD i (.Pass ⟨0, 0, 0, 0⟩)
abbrev sIT : Stmt := inClass (top 10) 0
abbrev sIsName : Stmt := top 15
abbrev sVFacts : Stmt := top 16
abbrev sRuleI : Stmt := inClass (top 22) 0
abbrev sRuleName : Stmt := inClass (top 22) 1
abbrev sRuleCond : Stmt := inClass (top 22) 2
abbrev sRuleRuling : Stmt := inClass (top 22) 3
abbrev sRuleExc : Stmt := inClass (top 22) 4
abbrev sRowsB : Stmt := top 23
abbrev sBookI : Stmt := inClass (top 25) 0
abbrev sBookV : Stmt := inClass (top 25) 1
abbrev sBookFacts : Stmt := inClass (top 25) 2
abbrev sBookRules : Stmt := inClass (top 25) 3
abbrev sBookRuling : Stmt := inClass (top 25) 4
abbrev sCondI : Stmt := inClass (top 32) 0
abbrev sCondH : Stmt := inClass (top 32) 1
abbrev sCondF : Stmt := inClass (top 32) 2
abbrev sCondN : Stmt := inClass (top 32) 3
abbrev sFree : Stmt := top 36
abbrev sRowsN : Stmt := top 37
abbrev sRowI : Stmt := inClass (top 39) 0
abbrev sPeek : Stmt := inClass (top 39) 1
abbrev sOver : Stmt := inClass (top 39) 2
abbrev sCheck : Stmt := inClass (top 39) 3
abbrev sTake : Stmt := inClass (top 39) 4
abbrev sTakeN : Stmt := inClass (top 39) 5
abbrev sEnd : Stmt := inClass (top 39) 6
abbrev sRFacts : Stmt := top 40
abbrev sRSide : Stmt := top 41
abbrev sRCond : Stmt := top 42
abbrev sRRule : Stmt := top 43
abbrev sRulesOf : Stmt := top 44
abbrev sParse : Stmt := top 45
abbrev sBookOf : Stmt := top 46
abbrev sMix : Stmt := top 48
abbrev sNext : Stmt := top 49
abbrev sAlike : Stmt := top 50
abbrev sFacts : Stmt := top 51
abbrev sSides : Stmt := top 52
abbrev sRule : Stmt := top 53
abbrev sDrawn : Stmt := top 54
abbrev sTold : Stmt := top 55
abbrev sSeen : Stmt := top 56
abbrev sWords : Stmt := top 57
abbrev sRowsOf : Stmt := top 58
abbrev sText : Stmt := top 59
abbrev sNamed : Stmt := top 60
abbrev sLFacts : Stmt := top 61
abbrev sLSide : Stmt := top 62
abbrev sLRule : Stmt := top 63
abbrev sNested : Stmt := top 64
abbrev sRead : Stmt := top 65
abbrev sParsed : Stmt := top 66
abbrev sBent : Stmt := top 67
abbrev sLaw : Stmt := top 68
end K56
set_option Elab.async false
set_option linter.all false
set_option maxRecDepth 100000
set_option maxHeartbeats 4000000
/-! K56, part X1: an own exception over ValueError, made by two keywords. -/
namespace K56
open PySem PySem.W PySem.Calls PyProof.Rows PySem.HandSPX
section
variable {M : Model} {A : Around} {E : Value → Shared → Prop} {h : Heap} {g : Array GenState} {d : Drawn} {t : Nat} {os : OsState}
variable {nm q : Str} {C N : Addr} {bs bm : List Value} {sn : List Str} {sub : List Value} {ab : Bool} {col : Option Bool} {dd : Option Addr}
variable {j0 j1 j2 j3 j5 : Option Value} {u1 u2 : Value}
abbrev kws2 (u1 u2 : Value) : List (Str × Value) := [("row", u1), ("word", u2)]
/-- C stands as an exception class of the program -/
abbrev ExcAt (h : Heap) (C : Addr) (nm q : Str) (N : Addr) (bs bm : List Value) (sn : List Str) (sub : List Value) (ab : Bool) (col : Option Bool) (dd : Option Addr) (j0 j1 j2 j3 j5 : Option Value) : Prop :=
  h.get? C = some (excClassObj nm q C N bs bm true sn sub ab col dd j0 j1 j2 j3 j5 "ValueError.__new__") ∧ refsVE bm = true
theorem own_has (hbm : refsVE bm = true) {x : String} (hx : veTail.contains (.type x) = true) : (Value.ref C :: bm).contains (.type x) = true := by
  rw [List.contains_cons, refsVE_contains _ _ hbm, hx, Bool.or_true]
theorem own_not (hbm : refsVE bm = true) {x : String} (hx : veTail.contains (.type x) = false) : (Value.ref C :: bm).contains (.type x) = false := by
  rw [List.contains_cons, refsVE_contains _ _ hbm, hx]
  rfl
theorem kw_check_new {Q : Unit → Shared → Prop} (z : ExcAt h C nm q N bs bm sn sub ab col dd j0 j1 j2 j3 j5) (hq : Q () ⟨h, g, d, t, os⟩) :
    wpAny M A (checkBuiltinCall "ValueError.__new__" ⟨[.ref C], kws2 u1 u2⟩) Q E ⟨h, g, d, t, os⟩ := by
  obtain ⟨hC, hbm⟩ := z
  have c1 := own_has (C := C) hbm (x := "ValueError") (by decide +kernel)
  simp only [checkBuiltinCall, F.excBase_ValueError.newKind, F.excBase_ValueError.newSplit, F.excBase_ValueError.newRow]
  repeat (first
    | refine wpAny_loadPart_at hC ?_
    | (refine wpAny_isSubtype_exc hC ?_; rw [c1])
    | refine wpAny_staticBase_exc hC ?_
    | refine wpAny_madeBy_exc hC ?_
    | simp only [bne_self_eq_false, Bool.false_eq_true, if_false]
    | wp_step)
  exact hq
end
section
variable {prog : Program} {w : World} {A : Around} {E : Value → Shared → Prop} {R : Result → Shared → Prop} {h : Heap} {g : Array GenState} {d : Drawn} {t : Nat} {os : OsState}
variable {nm q : Str} {C N : Addr} {bs bm : List Value} {sn : List Str} {sub : List Value} {ab : Bool} {col : Option Bool} {dd : Option Addr}
variable {j0 j1 j2 j3 j5 : Option Value} {u1 u2 : Value} {fI : Addr}
/-- the heap with the new exception: its empty args, itself -/
abbrev born (h : Heap) (C : Addr) : Heap := (h.push (W.kdv_tup [])).push (excO C h.objs.size)
theorem born_keeps (C : Addr) {b : Addr} {o : Obj} (e : h.get? b = some o) : (born h C).get? b = some o := Heap.get?_push_of_some _ (Heap.get?_push_of_some _ e)
theorem born_at (h : Heap) (C : Addr) : (born h C).get? (h.objs.size + 1) = some (excO C h.objs.size) := by heap_get
theorem kw_new (z : ExcAt h C nm q N bs bm sn sub ab col dd j0 j1 j2 j3 j5) (hq : R (.ok (.ret (.ref (h.objs.size + 1)))) ⟨born h C, g, d, t, os⟩) :
    codeAny (model prog w) A (.builtin "ValueError.__new__" ⟨[.ref C], kws2 u1 u2⟩) R ⟨h, g, d, t, os⟩ := by
  obtain ⟨hC, hbm⟩ := z
  have FV := F.excBase_ValueError
  have hends := FV.ends
  have y1 := own_has (C := C) hbm (x := "ValueError") (by decide +kernel)
  have y2 := own_not (C := C) hbm (x := "AttributeError") (by decide +kernel)
  have y3 := own_not (C := C) hbm (x := "NameError") (by decide +kernel)
  have hz : ([] : List Value).length ≤ sizeLine := Nat.zero_le _
  refine codeAny_builtinAt FV.entry ?_
  unfold Builtin.«BaseException.__new__»
  refine _root_.PySem.wpAt_bind ?_
  show _root_.PySem.wpAt _ _ _ (stack >>= _) _ _ _
  refine _root_.PySem.wpAt_bind (_root_.PySem.wpAt_stack fun p below => _root_.PySem.wpAt_of_wpAny ?_)
  wp_walk
  refine _root_.PySem.wpAt_of_wpAny ?_
  rw [FV.owner]
  repeat (first
    | with_reducible refine wpAny_madeHere_exc FV.canon hC ?_
    | with_reducible refine wpAny_loadPart_at hC ?_
    | (with_reducible refine wpAny_isSubtype_exc hC ?_; first | rw [y1] | rw [y2] | rw [y3])
    | wp_step)
  show R _ _
  rw [Heap.size_push]
  exact hq
theorem kw_type_call {Q : Fin → Shared → Prop} (z : ExcAt h C nm q N bs bm sn sub ab col dd j0 j1 j2 j3 j5)
    (hi : W.Looks (model prog w) h (typeLookup (.ref C) "__init__") (some (.ref fI))) (hb : ∀ self, W.Looks (model prog w) h (bindSpecial (.ref fI) self) (.ref fI, [self]))
    (hq : codeAny (model prog w) A (.call (.ref fI) ⟨[.ref (h.objs.size + 1)], kws2 u1 u2⟩)
      (fun r s' => match r with
        | .ok (.ret v) => v = .none ∧ Q (.done (.ret (.ref (h.objs.size + 1)))) s'
        | .ok _ => False
        | .error e => E e s') ⟨born h C, g, d, t, os⟩) :
    wpAny (model prog w) A (Builtin.«type.__call__» ⟨[.ref C], kws2 u1 u2⟩) Q E ⟨h, g, d, t, os⟩ := by
  have hC := z.1
  repeat (first | with_reducible refine wpAny_loadPart_at hC ?_ | with_reducible refine wpAny_madeBy_exc hC ?_ | wp_step)
  refine codeAny_call_builtin_code (Code.quiet_builtin _ F.excBase_ValueError.quiet) (kw_check_new z ?_)
  refine kw_new z ?_
  show wpAny _ _ _ _ _ _
  have g1 := born_keeps (h := h) C hC
  have g2 := born_at h C
  have y4 : (Value.ref C :: bm).contains (.ref C) = true := by simp
  have i1 := hi.keeps (h' := born h C) fun b o e => born_keeps C e
  have b1 := (hb (.ref (h.objs.size + 1))).keeps (h' := born h C) fun b o e => born_keeps C e
  unfold isInstance
  repeat (first
    | with_reducible refine wpAny_loadPart_at g2 ?_
    | (with_reducible refine wpAny_isSubtype_exc g1 ?_; rw [y4])
    | wp_step)
  show wpAny _ _ (typeLookup (.ref C) _) _ _ _
  refine i1.at (wpAny_holding (wpAny_bind (b1.at ?_)))
  refine wpAny_bind (wpAny_call (codeAny_mono hq fun r s' y => ?_))
  rcases r with e | (v | _ | _ | _) <;> first | exact y | exact y.elim | skip
  obtain ⟨rfl, y⟩ := y
  first
    | exact wpAny_pure (wpAny_pure y)
    | (wp_walk; exact y)
theorem kw_call (z : ExcAt h C nm q N bs bm sn sub ab col dd j0 j1 j2 j3 j5)
    (hi : W.Looks (model prog w) h (typeLookup (.ref C) "__init__") (some (.ref fI))) (hb : ∀ self, W.Looks (model prog w) h (bindSpecial (.ref fI) self) (.ref fI, [self]))
    (hq : codeAny (model prog w) (A.under (.builtin "type.__call__" ⟨[.ref C], kws2 u1 u2⟩)) (.call (.ref fI) ⟨[.ref (h.objs.size + 1)], kws2 u1 u2⟩) (W.InitBack (h.objs.size + 1) R) ⟨born h C, g, d, t, os⟩) :
    codeAny (model prog w) A (.call (.ref C) ⟨[], kws2 u1 u2⟩) R ⟨h, g, d, t, os⟩ := by
  have f1 := tc_lookup
  have f2 := tc_bind (.ref C)
  have hC := z.1
  have hTy : (⟨h, g, d, t, os⟩ : Shared).TypeIs (.ref C) "type" := ⟨_, hC, rfl⟩
  refine codeAny_of_tree ?_
  show wpAny _ _ (callAny (.ref C) _) _ _ _
  repeat (any_goals (first | assumption | with_reducible refine wpAny_loadPart_at hC ?_ | wp_step))
  refine ⟨rfl, ?_⟩
  refine codeAny_call_builtin_at (Code.quiet_builtin _ (by decide +kernel)) entry_typeCall (wpAny_check_type_call_sub hC (kw_type_call z hi hb ?_))
  refine codeAny_mono hq fun r s' y => ?_
  rcases r with e | (v | _ | _ | _) <;> exact y
end
end K56
set_option Elab.async false
set_option linter.all false
set_option maxRecDepth 100000
set_option maxHeartbeats 4000000
/-! K56, part X2: InvalidText's __init__. -/
namespace K56
open PySem PySem.W PySem.Calls PyProof.Rows PySem.HandSPX L2
/-- what the written part says of InvalidText, at C, of its __init__, at fI, whose cell of __class__ stands at cc -/
structure ITxt (P : Program) (K : Frag) (mg : Str → Option Value) (C fI cc cda : Addr) : Prop where
  gC : mg "InvalidText" = some (.ref C)
  gS : mg "super" = none
  cls : ∃ nm q N bs bm sn sub ab col dd k0 k1 k2 k3 k5, K.lookup C = some (excClassObj nm q C N bs bm true sn sub ab col dd k0 k1 k2 k3 k5 "ValueError.__new__") ∧ refsVE bm = true
  sa : findIn K (.ref C) "__setattr__" = some (some (.builtin "object.__setattr__"))
  noR : findIn K (.ref C) "row" = some none
  noW : findIn K (.ref C) "word" = some none
  iC : findIn K (.ref C) "__init__" = some (some (.ref fI))
  tC : typeIn K (.ref fI) = some (.type "function")
  kC : keepIn K (.ref C) = true
  exC : subIn K (.ref C) (.type "BaseException") = some true
  exV : subIn K (.ref C) (.type "ValueError") = some true
  tyC : typeIn K (.ref C) = some (.type "type")
  opq : nsIn K cStatics "thirdparty.any" = some none
  sup : ks_superIn K C C "__init__" = some (some (.builtin "ValueError.__init__"))
  mro : mroIn K C (.ref C) = some true
  cell : ∃ cl cld csl, K.lookup cc = some ⟨cl, cld, .cell (some (.ref C)), csl⟩
  file : ∃ ccl cdd vs ccs file tf, K.lookup cda = some ⟨ccl, cdd, .fields vs, ccs⟩ ∧ vs[2]? = some (.str file tf) ∧ ((P.main.file : Str) == file) = true
  htop : (P.main.scope.names.lookup ("super" : Str)).isSome = false
  fn : ∃ (oc : Value) (od : Option Addr) (kV doc pm : Value) (an : Option Addr) (ct : Value) (osl : Array (Option Value)),
    K.lookup fI = some ⟨oc, od, .func (ksFn "__init__" "InvalidText.__init__" (defArgs sIT) (defBody sIT) (defScope sIT) .none kV doc pm an (.ref cda) ct cc), osl⟩ ∧ codeIn K (.ref cda) "InvalidText.__init__" = true
section
variable {P : Program} {w : World} {A : Around} {E : Value → Shared → Prop} {R : Result → Shared → Prop} {s : Shared} {K : Frag} {mg mb : Str → Option Value} {C fI cc cda : Addr}
/-- super().__init__(..), bound to the exception x, called: the args are laid anew -/
theorem bw_call {prog : Program} {h : Heap} {g : Array GenState} {d : Drawn} {t : Nat} {os : OsState} {nm q : Str} {N : Addr} {bs bm : List Value} {sn : List Str} {sub : List Value} {ab : Bool} {col : Option Bool} {dd : Option Addr}
    {j0 j1 j2 j3 j5 : Option Value} {u x t0 : Addr} {v : Value} {Q : Value → Shared → Prop}
    (z : ExcAt h C nm q N bs bm sn sub ab col dd j0 j1 j2 j3 j5) (hx : h.get? x = some (excO C t0)) (hu : h.get? u = some (kxs_mw "ValueError.__init__" x))
    (hq : ∀ h' t1, (∀ b o, b ≠ x → h.get? b = some o → h'.get? b = some o) → h'.get? x = some (excO C t1) → Q .none ⟨h', g, d, t, os⟩) :
    wpAny (model prog w) A (call (.ref u) [v]) Q E ⟨h, g, d, t, os⟩ := by
  have FV := F.excBase_ValueError
  refine wpAny_call (codeAny_of_tree ?_)
  show wpAny _ A.in1 (callAny (.ref u) ⟨[v], []⟩) _ _ _
  simp only [callAny]
  refine wpAny_bind (wpAny_load hu ?_)
  simp only [kxs_mw]
  refine KFB.if_so (by decide) ?_
  refine wpAny_bind (check_bound_init FV.toExcCallFacts z.1 hx rfl ?_)
  refine wpAny_bind (wpAny_pure (wpAny_pure ⟨plainId_quiet FV.init.plain _, codeAny_builtin FV.initEntry ?_⟩))
  exact exc_init_tree (cls := .ref C) (t0 := t0) (dv := none) (c2 := .none) (c3 := .none) (b4 := .bool false) hx (by rw [sizeLine_eq]; exact (by decide : 1 ≤ 16777216)) fun h' k e _ => hq h' _ k e
theorem it_init (T : ITxt P K mg C fI cc cda) {x t0 : Addr} {u1 u2 : Value} (X : K.In s.heap) (hlim : s.heap.NoLimit) (hx : s.heap.get? x = some (excO C t0)) (hnx : K.lookup x = none) (hroom : A.depth < recursionLimit)
    (hg : s.heap.Ns mainGlobals mg) (hb : s.heap.Ns builtinsNs mb) (hbs : mb "super" = some (.type "super"))
    (hq : ∀ h' tk dx t1, (∀ b o, b ≠ x → s.heap.get? b = some o → h'.get? b = some o) → h'.get? x = some { cls := .ref C, dict := some dx, data := .fields #[.ref t1, .none, .none, .none, .bool false, .none] } →
      s.heap.objs.size ≤ dx → dx ≠ x → h'.Ns1 dx (fun y => if y = "word" then some u2 else if y = "row" then some u1 else none) → R (.ok (.ret .none)) { s with heap := h', toks := tk }) :
    codeAny (model P w) A (.call (.ref fI) ⟨[.ref x], kws2 u1 u2⟩) R s := by
  obtain ⟨hh, g, d, tk0, os⟩ := s
  obtain ⟨oc, od, kV, doc, pm, an, ct, osl, ho, hcd⟩ := T.fn
  obtain ⟨nm, q, N, bs, bm, sn, sub, ab, col, dd, k0, k1, k2, k3, k5, hC, hbm⟩ := T.cls
  have hcl : clsIn K C = some { name := nm, bases := bs, mro := .ref C :: bm, ns := N, qualname := q, hasDict := true, slotNames := sn, subclasses := sub, abstract := ab, collection := col, hasDel := false } := by unfold clsIn; rw [hC] <;> rfl
  refine ks_codeAny_call_defAt (binds := [("self", .ref x), ("row", u1), ("word", u2)]) hroom (X _ _ ho) rfl hlim (codeRec_of X hcd) rfl (BindsTo.of_eq (by rfl)) (show ∀ x ∈ (defScope sIT).names, x.2 ≠ .cell from by decide +kernel) (locs (by rfl)) (fun h1 hns hk1 => ?_)
  have X1 : K.In h1 := X.keeps hk1
  have x1 : h1.get? x = some (excO C t0) := hk1 _ _ hx
  obtain ⟨cl, cld, csl, hcell⟩ := T.cell
  obtain ⟨ccl, cdd, vs, ccs, file, tf, hcda, hvs, hfile⟩ := T.file
  have iI : isInstance (.ref x) (.type "ValueError") = isInstance (.ref x) (.type "ValueError") := rfl
  have kindN : ∀ y, y ∈ [("self", Value.ref x), ("row", u1), ("word", u2)] → True := fun _ _ => True.intro
  show _root_.PySem.wpAt _ _ _ (execs (defBody sIT) _) _ _ _
  refine ks_wpAt_execs_cons ?_
  refine ks_wpAt_Expr_any ?_
  refine ks_wpAt_MethodCall ?_
  refine ks_wpAt_super_base (f := fI) (cc := cda) (file := file) (tf := tf) (vs := vs) rfl rfl (by decide +kernel) rfl (X1 _ _ ho) rfl rfl rfl (X1 _ _ hcda) rfl hvs hfile T.htop ?_
  refine ks_loadName_global rfl rfl (loadGlobal_builtin (hg.keeps hk1) T.gS (hb.keeps hk1) hbs ⟨rfl, ?_⟩)
  refine wpAny_loadName_free rfl rfl rfl ⟨_, X1 _ _ hcell, rfl⟩ ?_
  refine wpAny_loadName_local rfl rfl hns (by rfl) ?_
  refine ks_wpAny_isType_cls (X1 _ _ hC) rfl ⟨rfl, ?_⟩
  have nxC : x ≠ C := fun e => by
    have z1 := X1 _ _ hC
    rw [← e, x1] at z1
    cases z1
  have I1 : InstAt h1 x (excO C t0) C none := ⟨x1, rfl, rfl, trivial⟩
  refine ks_wpAny_call_super (X1 _ _ hC) rfl x1 rfl (fun c e => nomatch e) (looks_mroIn X1 T.mro) (fun h2 e2 k2 => ?_)
  have X2 : K.In h2 := X1.keeps k2
  have x2 := k2 _ _ x1
  have I2 : InstAt h2 x (excO C t0) C none := ⟨x2, rfl, rfl, trivial⟩
  have sup : alongIn K "__init__" (((Value.ref C :: bm).dropWhile (· != .ref C)).drop 1) = some (some (.builtin "ValueError.__init__")) := by
    have z := T.sup
    unfold ks_superIn at z
    rw [hcl] at z
    exact z
  refine kxs_getMethod kxs_ValueError e2 (looks_opaque X2 T.opq) (l₀ := Value.ref C :: bm) ((looks_clsIn X2 hcl).andThen .now) rfl X2 sup (I2.type.andThen (looks_subIn X2 T.exV)) nxC (by decide +kernel) ?_
  refine kxs_callWith (i := "ValueError.__init__") (x := x) (by rfl) (evalArgs_plain ?_)
  refine Calls.spliced_cons (Calls.Constant_str (k := 0) (pos := ⟨41, 25, 41, 44⟩) ?_)
  refine spliced_none ?_
  have hu3 : (h2.push (kxs_mw "ValueError.__init__" x)).get? h2.objs.size = some (kxs_mw "ValueError.__init__" x) := Heap.get?_push_at rfl rfl
  have k3 : ∀ b o, h2.get? b = some o → (h2.push (kxs_mw "ValueError.__init__" x)).get? b = some o := fun b o e => Heap.get?_push_of_some _ e
  refine ⟨hu3, ?_⟩
  refine bw_call (C := C) ⟨k3 _ _ (X2 _ _ hC), hbm⟩ (k3 _ _ x2) hu3 (fun h4 t1 k4 x4 => ?_)
  have Lx : hh.objs.size ≠ x := Nat.ne_of_gt (Heap.lt_size hx)
  have k14 : ∀ b o, b ≠ x → h1.get? b = some o → h4.get? b = some o := fun b o hb e => k4 b o hb (k3 b o (k2 b o e))
  have old4 : ∀ b o, b ≠ x → hh.get? b = some o → h4.get? b = some o := fun b o hb e => k14 b o hb (hk1 b o e)
  have kx : ∀ a o, K.lookup a = some o → a ≠ x := fun a o e z => by
    rw [z, hnx] at e
    cases e
  have X4 : K.In h4 := fun a o e => old4 a o (kx a o e) (X _ _ e)
  have hns4 := hns.at (h' := h4) fun o q => k14 _ o Lx q
  show _root_.PySem.wpAt _ _ _ (execs _ _) _ _ _
  refine ks_wpAt_execs_cons (ks_wpAt_Assign_Attr (_root_.PySem.wpAt_of_wpAny ?_))
  refine wpAny_Name (wpAny_loadName_local rfl rfl hns4 (by rfl) ?_) (by decide)
  refine wpAny_Name (wpAny_loadName_local rfl rfl hns4 (by rfl) ?_) (by decide)
  refine set_plain X4 (ox := excO C t1) (od := none) ⟨x4, rfl, rfl, trivial⟩ T.sa ?_
  refine exc_osa X4 x4 hcl (show refsVE (.ref C :: bm) = true from hbm) rfl T.noR (fun h5 tk5 dx k5 dn dne x5 n5 => ?_)
  have k15 : ∀ b o, b ≠ x → h1.get? b = some o → h5.get? b = some o := fun b o hb e => k5 b o hb (k14 b o hb e)
  have X5 : K.In h5 := fun a o e => k5 a o (kx a o e) (X4 _ _ e)
  have hns5 := hns.at (h' := h5) fun o q => k15 _ o Lx q
  have w5 : Within (fun y => if y = ("row" : Str) then some u1 else none) [("row" : Str)] := fun y hy => by
    by_cases e : y = ("row" : Str)
    · rw [e]
      exact List.mem_cons_self
    · exact absurd (if_neg e) hy
  show _root_.PySem.wpAt _ _ _ (execs _ _) _ _ _
  refine ks_wpAt_execs_cons (ks_wpAt_Assign_Attr (_root_.PySem.wpAt_of_wpAny ?_))
  refine wpAny_Name (wpAny_loadName_local rfl rfl hns5 (by rfl) ?_) (by decide)
  refine wpAny_Name (wpAny_loadName_local rfl rfl hns5 (by rfl) ?_) (by decide)
  obtain ⟨oD, esD, epD, hoD, hdD, hcD⟩ := id n5
  refine set_plain X5 (ox := { cls := .ref C, dict := some dx, data := .fields #[.ref t1, .none, .none, .none, .bool false, .none] }) (od := some oD) ⟨x5, rfl, rfl, hoD⟩ T.sa ?_
  refine PySem.OEX.osa_old X5 x5 n5 w5 (by decide) hcl (show refsVE (.ref C :: bm) = true from hbm) rfl T.noW (fun h6 tk6 k6 n6 => ?_)
  have dx0 : hh.objs.size ≤ dx := Nat.le_trans (Nat.le_trans (Nat.le_of_lt hns4.lt) (Nat.le_refl _)) dn
  show _root_.PySem.wpAt _ _ _ (execs _ _) _ _ _
  refine _root_.PySem.wpAt_of_wpAny (wpAny_execs_nil ?_)
  exact hq h6 tk6 dx t1 (fun b o hb e => k6 b o (Nat.ne_of_lt (Nat.lt_of_lt_of_le (Heap.lt_size e) dx0)) (k5 b o hb (old4 b o hb e))) (k6 _ _ (Ne.symm dne) x5) dx0 dne n6
end
end K56
set_option Elab.async false
set_option linter.all false
set_option maxRecDepth 100000
set_option maxHeartbeats 4000000
/-! K56, part X3: raise InvalidText(row=.., word=..); what a suite asks of such an error. -/
namespace K56
open PySem PySem.W PySem.Calls PyProof.Rows PySem.HandSPX L2
/-- the own dict of the error -/
abbrev itD (v1 v2 : V) : List (Str × V) := [("word", v2), ("row", v1)]
theorem itD_rel {v1 v2 : V} {u1 u2 : Value} (r1 : RelV v1 u1) (r2 : RelV v2 u2) (f : Str) : RelO ((itD v1 v2).lookup f) (if f = "word" then some u2 else if f = "row" then some u1 else none) := by
  rw [lookup_put]
  by_cases h : f = ("word" : Str)
  · rw [if_pos h, if_pos h]
    exact r2
  · rw [if_neg h, if_neg h, lookup_put]
    by_cases h' : f = ("row" : Str)
    · rw [if_pos h', if_pos h']
      exact r1
    · rw [if_neg h', if_neg h']
      exact True.intro
def tMkIT (C : Addr) (tk : TA) : L2.St → Hp → XK → Prop := fun σ H Q => tk σ H fun zs H1 => ∃ v1 v2, zs = [v1, v2] ∧ ∀ d, H1 d = none → Q (.ref C) (some d) (upd H1 d (.xd (itD v1 v2)))
section
variable {X : Cx} {C fI cc cda : Addr}
theorem pmk_it {e1 e2 : Expr} {tk : TA} {p pos : Pos} {k1 k2 : Pos} {k : Nat} (T : ITxt X.prog X.K X.mg C fI cc cda) (hr : Room k X.A) (hk : PK X [⟨some "row", e1, k1⟩, ⟨some "word", e2, k2⟩] tk) (hg : Gl X "InvalidText" := by rfl) :
    PMk X (.Call (.Name "InvalidText" p) [] [⟨some "row", e1, k1⟩, ⟨some "word", e2, k2⟩] pos) (tMkIT C tk) := by
  intro pins s σ H Q I h
  refine wpAny_Call_Name_kw (ld_glob I hg T.gC ?_)
  refine callWith_KW0 (h₀ := X.base) I.ok.mod.kin T.kC (by rfl) ?_ (by rfl)
  refine thn (hk.run pos pins s σ H _ I h) fun ws s1 ⟨zs, H1, I1, rz, v1, v2, ez, q⟩ => ⟨I1.kIn, ?_⟩
  subst ez
  cases rz with
  | @cons _ u1 _ ur ra rw' =>
    cases rw' with
    | @cons _ u2 _ _ rb rn =>
      cases rn
      show wpAny _ _ (call (.ref C) [] (kws2 u1 u2)) _ _ _
      obtain ⟨nm, qn, N, bs, bm, sn, sub, ab, col, dd, j0, j1, j2, j3, j5, hC, hbm⟩ := T.cls
      have hlim := I1.nolimit
      obtain ⟨mb, hb, hbs⟩ := I1.mod.blt
      have hb1 := hb.keeps I1.bk
      have hg1 := I1.mod.glob.keeps I1.bk
      have KX := I1.kIn
      obtain ⟨hp, g, dr, tk', os⟩ := s1
      have keep := fun b o (e : hp.get? b = some o) => born_keeps C e
      have KX2 : X.K.In (born hp C) := fun a o e => keep a o (KX _ _ e)
      have nK : X.K.lookup (hp.objs.size + 1) = none := by
        cases e : X.K.lookup (hp.objs.size + 1) with
        | none => rfl
        | some o => exact absurd (Nat.lt_of_succ_lt (Heap.lt_size (KX _ _ e))) (Nat.lt_irrefl _)
      refine wpAny_call (kw_call ⟨KX _ _ hC, hbm⟩ (looks_findIn KX T.iC) (fun self => bind_fn KX self T.tC) ?_)
      refine it_init (s := ⟨born hp C, g, dr, tk', os⟩) (mb := mb) T KX2 (hlim.keeps keep) (born_at hp C) nK ?_ (hg1.keeps keep) (hb1.keeps keep) ?_ (fun h' tk2 dx t1 k' hx dn dne hns => ?_)
      · have := hr.dp
        show X.A.depth + 1 < recursionLimit
        omega
      · exact (hbs "super" (by decide +kernel)).trans (by first | boot_by_name | rfl | kernel_rfl)
      · refine ⟨rfl, ?_⟩
        show MkP X pins σ Q (.ref (hp.objs.size + 1)) ⟨h', g, dr, tk2, os⟩
        have dn' : hp.objs.size ≤ dx := Nat.le_trans (by
          show hp.objs.size ≤ (born hp C).objs.size
          rw [Heap.size_push, Heap.size_push]
          omega) dn
        obtain ⟨G', g1, g2⟩ := restrict h' fun b => decide (b ≠ hp.objs.size + 1)
        have gk : ∀ b, b ≠ hp.objs.size + 1 → G'.get? b = h'.get? b := fun b hb => g1 b (decide_eq_true hb)
        have ge : G'.get? (hp.objs.size + 1) = none := g2 _ (by simp)
        have ne0 : ∀ {b : Addr} {o : Obj}, hp.get? b = some o → b ≠ hp.objs.size + 1 := fun {b o} e => Nat.ne_of_lt (Nat.lt_succ_of_lt (Heap.lt_size e))
        have old : ∀ b o, hp.get? b = some o → G'.get? b = some o := fun b o e => (gk b (ne0 e)).trans (k' b o (ne0 e) (keep b o e))
        have ob : ObjOk X.prog X.w (upd H1 dx (.xd (itD v1 v2))) G' dx (.xd (itD v1 v2)) := ⟨_, hns.at (fun o y => (gk dx dne).trans y), itD_rel ra rb⟩
        have J : Inv X pins σ (upd H1 dx (.xd (itD v1 v2))) ⟨G', g, dr, tk2, os⟩ := I1.laid (t' := tk2) old dn' ob
        refine ⟨hp.objs.size + 1, _, _, ⟨G', g, dr, tk2, os⟩, _, .ref C, some dx, rfl, J, fun b o y => ?_, ge, hx, ⟨rfl, rfl⟩, rfl, rfl, ?_, rfl, I1.bare, raises_own T.exC T.tyC, q dx (I1.hok.fresh dn')⟩
        · by_cases hb' : b = hp.objs.size + 1
          · rw [hb'] at y
            have y2 : G'.get? (hp.objs.size + 1) = some o := y
            rw [ge] at y2
            cases y2
          · exact (gk b hb').symm.trans y
        · rw [upd_ne (Ne.symm dne)]
          exact I1.hok.fresh (Nat.le_succ _)
/-- raise InvalidText(row=e1, word=e2) -/
theorem ps_raiseIT {e1 e2 : Expr} {tk : TA} {W : WX} {p pos pos2 : Pos} {k1 k2 : Pos} {k : Nat} (hc : X.calm = true) (T : ITxt X.prog X.K X.mg C fI cc cda) (hr : Room k X.A) (tkx : Takes X W)
    (hk : PK X [⟨some "row", e1, k1⟩, ⟨some "word", e2, k2⟩] tk) (hg : Gl X "InvalidText" := by rfl) :
    PS X (.Raise (some (.Call (.Name "InvalidText" p) [] [⟨some "row", e1, k1⟩, ⟨some "word", e2, k2⟩] pos)) none pos2) (fun _ σ H => tMkIT C tk σ H fun cls d H' => W cls d σ H') := ps_raise hc tkx (pmk_it T hr hk hg)
/-- what isinstance asks of the class -/
structure IsIT (K : Frag) (C : Addr) : Prop where
  cl : (clsIn K C).isSome = true
  ga : findIn K (.ref C) "__getattribute__" = some (some (.builtin "BaseException.__getattribute__"))
  gg : findIn K (.ref C) "__getattr__" = some none
  sub : subIn K (.ref C) (.type "BaseException") = some true
  ha : findIn K (.ref C) "__class__" = some (some (.builtin "object.__class__"))
  hn : specialIn K (.builtin "object.__class__") "__get__" = some (some (.builtin "getset_descriptor.__get__"))
  ht : takesIn K (.builtin "object.__class__") = some true
  hm : mroIn K C (.type "object") = some true
/-- isinstance(e, InvalidText), e an InvalidText that the suite holds -/
def rIsIT (C a : Addr) : List V → Hp → VK → Prop := fun xs H Q => xs = [.ref a, .ref C] ∧ Q (.bl true) H
theorem call_isIT {a : Addr} {oe : Obj} {cls : Value} {d : Option Addr} {pn : List (Addr × Obj)} (S : IsIT X.K C) (hz : Zc cls d oe) (hf : ∃ vs, oe.data = .fields vs) :
    CallR (X.suite a ((a, oe) :: pn)) (.builtin "isinstance") (fun xs H Q => cls = .ref C ∧ (∃ dd fs, d = some dd ∧ H dd = some (.xd fs)) ∧ rIsIT C a xs H Q) := by
  intro pins s σ H xs us Q I r h
  obtain ⟨rfl, ⟨dd, fs, rfl, hdd⟩, rfl, q⟩ := h
  cases r with
  | cons rx rr =>
    cases rr with
    | cons rt rr =>
      cases rr
      cases rx
      cases rt
      obtain ⟨hget, _⟩ := I.pin (a, oe) (List.mem_append.mpr (.inl List.mem_cons_self))
      obtain ⟨vs, hv⟩ := hf
      have hx : ObjOk X.prog X.w H s.heap dd (.xd fs) := I.hok dd _ hdd
      obtain ⟨mA, ⟨od, es, ep, hod, _⟩, _⟩ := hx
      have J : InstAt s.heap a oe C (some od) := ⟨hget, hz.1, by unfold PySem.W.notCls; rw [hv] <;> rfl, by rw [hz.2]; exact hod⟩
      exact kia_one (kitx_exc (C := C) (od := some od) S.cl S.ga S.gg S.sub S.ha S.hn S.ht S.hm) I.kIn J (by unfold kitOne; rw [if_pos (by simp)]) (fun z => nomatch z) fun tk => ⟨.bl true, H, I.kept (t' := tk) fun _ _ z => z, rfl, q⟩
end
end K56
set_option Elab.async false
set_option linter.all false
set_option maxRecDepth 100000
set_option maxHeartbeats 4000000
/-! K56, part H1: what the top leaves, as facts by names (printed by gen_h1.py). -/
namespace K56
open PySem PySem.W PyProof.Rows L2 He
/-- the property f of the class C: its object, its getter -/
def pA (K : Frag) (C f : Str) : Addr := ma K (ga K C) f
def pG (K : Frag) (C f : Str) : Addr := match recIn K (pA K C f) "property" with
  | some (.ref a :: _) => a
  | _ => 0
/-- one def: where it stands, its name, its text -/
structure DA where
  ad : Frag → Addr
  name : Str
  qual : Str
  st : Stmt
def fnAt (K : Frag) (a : Addr) : FnW := match K.lookup a with
  | some ⟨_, _, .func fd, _⟩ => some (fd.name, fd.qualname, fd.params, fd.body, fd.scope, fd.globals, fd.closure, fd.builtins)
  | _ => none
def DA.val (d : DA) : FnW := some (d.name, d.qual, defArgs d.st, .stmts (defBody d.st), defScope d.st, mainGlobals, [], builtinsNs)
def DA.ok (K : Frag) (d : DA) : Bool := keepIn K (.ref (d.ad K)) && (match K.lookup (d.ad K) with
  | some ⟨_, _, .func fd, _⟩ => codeIn K fd.code d.qual && (match fd.defaults with
    | .none => true
    | _ => false)
  | _ => false)
theorem DA.fun_ {K : Frag} {d : DA} (e : fnAt K (d.ad K) = d.val) (c : d.ok K = true) : ∃ fd, Fun K d.name d.qual d.st (d.ad K) fd := by
  obtain ⟨kp, c2⟩ := ba c
  unfold fnAt at e
  cases q : K.lookup (d.ad K) with
  | none =>
    rw [q] at c2
    cases c2
  | some o =>
    obtain ⟨oc, od, dt, osl⟩ := o
    rw [q] at c2 e
    cases dt with
    | func fd =>
      obtain ⟨a1, a2, a3, a4, a5, a6, a7, a8, a9, b1, b2, b3, b4, b5, b6⟩ := fd
      have e2 : (some (a1, a2, a3, a4, a5, a6, a7, b6) : FnW) = some (d.name, d.qual, defArgs d.st, .stmts (defBody d.st), defScope d.st, mainGlobals, [], builtinsNs) := e
      simp only [Option.some.injEq, Prod.mk.injEq] at e2
      obtain ⟨z1, z2, z3, z4, z5, z6, z7, z8⟩ := e2
      subst z1 z2 z3 z4 z5 z6 z7 z8
      obtain ⟨c3, c4⟩ := ba c2
      cases a8 with
      | none => exact ⟨_, ⟨⟨oc, od, _, _, _, _, _, _, osl, rfl, q, c3⟩, kp⟩⟩
      | _ => cases c4
    | _ => cases c2

def fnL0 : List DA := [⟨fun K => ga K "is_name", "is_name", "is_name", sIsName⟩,
  ⟨fun K => ga K "validate_facts", "validate_facts", "validate_facts", sVFacts⟩,
  ⟨fun K => ga K "rows_of_books", "rows_of", "rows_of", sRowsB⟩,
  ⟨fun K => ga K "is_free_name", "is_free_name", "is_free_name", sFree⟩,
  ⟨fun K => ga K "rows_of_notation", "rows_of", "rows_of", sRowsN⟩,
  ⟨fun K => ga K "read_facts", "read_facts", "read_facts", sRFacts⟩,
  ⟨fun K => ga K "read_side", "read_side", "read_side", sRSide⟩,
  ⟨fun K => ga K "read_condition", "read_condition", "read_condition", sRCond⟩,
  ⟨fun K => ga K "read_rule", "read_rule", "read_rule", sRRule⟩,
  ⟨fun K => ga K "rules_of", "rules_of", "rules_of", sRulesOf⟩,
  ⟨fun K => ga K "parse_book", "parse_book", "parse_book", sParse⟩,
  ⟨fun K => ga K "book_of", "book_of", "book_of", sBookOf⟩,
  ⟨fun K => ga K "_law_mix", "_law_mix", "_law_mix", sMix⟩,
  ⟨fun K => ga K "_law_next", "_law_next", "_law_next", sNext⟩,
  ⟨fun K => ga K "_law_alike", "_law_alike", "_law_alike", sAlike⟩,
  ⟨fun K => ga K "_law_facts", "_law_facts", "_law_facts", sFacts⟩,
  ⟨fun K => ga K "_law_sides", "_law_sides", "_law_sides", sSides⟩,
  ⟨fun K => ga K "_law_rule", "_law_rule", "_law_rule", sRule⟩,
  ⟨fun K => ga K "_law_drawn", "_law_drawn", "_law_drawn", sDrawn⟩,
  ⟨fun K => ga K "_law_told", "_law_told", "_law_told", sTold⟩,
  ⟨fun K => ga K "_law_seen", "_law_seen", "_law_seen", sSeen⟩,
  ⟨fun K => ga K "_law_words", "_law_words", "_law_words", sWords⟩,
  ⟨fun K => ga K "_law_rows_of", "_law_rows_of", "_law_rows_of", sRowsOf⟩,
  ⟨fun K => ga K "_law_text", "_law_text", "_law_text", sText⟩,
  ⟨fun K => ga K "_law_named", "_law_named", "_law_named", sNamed⟩]
def fnL1 : List DA := [⟨fun K => ga K "_law_read_facts", "_law_read_facts", "_law_read_facts", sLFacts⟩,
  ⟨fun K => ga K "_law_read_side", "_law_read_side", "_law_read_side", sLSide⟩,
  ⟨fun K => ga K "_law_read_rule", "_law_read_rule", "_law_read_rule", sLRule⟩,
  ⟨fun K => ga K "_law_nested", "_law_nested", "_law_nested", sNested⟩,
  ⟨fun K => ga K "_law_read", "_law_read", "_law_read", sRead⟩,
  ⟨fun K => ga K "_law_parsed", "_law_parsed", "_law_parsed", sParsed⟩,
  ⟨fun K => ga K "_law_bent", "_law_bent", "_law_bent", sBent⟩,
  ⟨fun K => ga K "law", "law", "law", sLaw⟩,
  ⟨fun K => ma K (ga K "Rule") "__init__", "__init__", "Rule.__init__", sRuleI⟩,
  ⟨fun K => ma K (ga K "Book") "__init__", "__init__", "Book.__init__", sBookI⟩,
  ⟨fun K => ma K (ga K "Book") "validate_rows", "validate_rows", "Book.validate_rows", sBookV⟩,
  ⟨fun K => ma K (ga K "Condition") "__init__", "__init__", "Condition.__init__", sCondI⟩,
  ⟨fun K => ma K (ga K "Row") "__init__", "__init__", "Row.__init__", sRowI⟩,
  ⟨fun K => ma K (ga K "Row") "peek", "peek", "Row.peek", sPeek⟩,
  ⟨fun K => ma K (ga K "Row") "is_over", "is_over", "Row.is_over", sOver⟩,
  ⟨fun K => ma K (ga K "Row") "check", "check", "Row.check", sCheck⟩,
  ⟨fun K => ma K (ga K "Row") "take", "take", "Row.take", sTake⟩,
  ⟨fun K => ma K (ga K "Row") "take_name", "take_name", "Row.take_name", sTakeN⟩,
  ⟨fun K => ma K (ga K "Row") "end", "end", "Row.end", sEnd⟩,
  ⟨fun K => pG K "Rule" "name", "name", "Rule.name", sRuleName⟩,
  ⟨fun K => pG K "Rule" "condition", "condition", "Rule.condition", sRuleCond⟩,
  ⟨fun K => pG K "Rule" "ruling", "ruling", "Rule.ruling", sRuleRuling⟩,
  ⟨fun K => pG K "Rule" "exceptions", "exceptions", "Rule.exceptions", sRuleExc⟩,
  ⟨fun K => pG K "Book" "facts", "facts", "Book.facts", sBookFacts⟩,
  ⟨fun K => pG K "Book" "rules", "rules", "Book.rules", sBookRules⟩]
def fnL2 : List DA := [⟨fun K => pG K "Book" "ruling", "ruling", "Book.ruling", sBookRuling⟩,
  ⟨fun K => pG K "Condition" "holding", "holding", "Condition.holding", sCondH⟩,
  ⟨fun K => pG K "Condition" "failing", "failing", "Condition.failing", sCondF⟩,
  ⟨fun K => pG K "Condition" "names", "names", "Condition.names", sCondN⟩]
def fnL : List DA := fnL0 ++ (fnL1 ++ (fnL2))
def faL0 : List Fa := [.glo "is_name",
  .glo "validate_facts",
  .glo "rows_of_books",
  .glo "is_free_name",
  .glo "rows_of_notation",
  .glo "read_facts",
  .glo "read_side",
  .glo "read_condition",
  .glo "read_rule",
  .glo "rules_of",
  .glo "parse_book",
  .glo "book_of",
  .glo "_law_mix",
  .glo "_law_next",
  .glo "_law_alike",
  .glo "_law_facts",
  .glo "_law_sides",
  .glo "_law_rule",
  .glo "_law_drawn",
  .glo "_law_told",
  .glo "_law_seen",
  .glo "_law_words",
  .glo "_law_rows_of",
  .glo "_law_text",
  .glo "_law_named"]
def faL1 : List Fa := [.glo "_law_read_facts",
  .glo "_law_read_side",
  .glo "_law_read_rule",
  .glo "_law_nested",
  .glo "_law_read",
  .glo "_law_parsed",
  .glo "_law_bent",
  .glo "law",
  .glo "Row",
  .glo "Rule",
  .glo "Book",
  .glo "Condition",
  .glo "InvalidText",
  .glo "CourtError",
  .glo "RESERVED",
  .free "len",
  .free "min",
  .free "max",
  .free "isinstance",
  .free "sorted",
  .free "range",
  .free "enumerate",
  .free "zip",
  .free "int",
  .free "tuple"]
def faL2 : List Fa := [.free "list",
  .free "dict",
  .free "str",
  .free "bool",
  .free "super",
  .int "LONGEST" 8,
  .int "MAX_FACTS" 60,
  .int "MAX_OUTERMOST" 40,
  .int "MAX_RULES" 60,
  .int "MAX_OPEN" 5,
  .int "MAX_NAMES" 8,
  .str "LETTERS" "abcdefghijklmnopqrstuvwxyz",
  .str "DEEPER" ">",
  .cls "Row",
  .mkr "Row",
  .noat "Row" "number",
  .noat "Row" "words",
  .noat "Row" "place",
  .cls "Rule",
  .mkr "Rule",
  .noat "Rule" "own_name",
  .noat "Rule" "own_condition",
  .noat "Rule" "own_ruling",
  .noat "Rule" "inner",
  .cls "Book"]
def faL3 : List Fa := [.mkr "Book",
  .noat "Book" "all_facts",
  .noat "Book" "outermost",
  .noat "Book" "last_ruling",
  .noat "Book" "rows",
  .cls "Condition",
  .mkr "Condition",
  .noat "Condition" "wanted",
  .noat "Condition" "barred",
  .meth "Book" "validate_rows",
  .meth "Row" "peek",
  .meth "Row" "is_over",
  .meth "Row" "check",
  .meth "Row" "take",
  .meth "Row" "take_name",
  .meth "Row" "end",
  .exm "InvalidText" "CourtError" true]
def faL : List Fa := faL0 ++ (faL1 ++ (faL2 ++ (faL3)))
def prL : List (Str × Str) := [("Rule", "name"), ("Rule", "condition"), ("Rule", "ruling"), ("Rule", "exceptions"), ("Book", "facts"), ("Book", "rules"), ("Book", "ruling"), ("Condition", "holding"), ("Condition", "failing"), ("Condition", "names")]
/-- a property stands -/
def prB (K : Frag) (q : Str × Str) : Bool := eqO (findIn K (.ref (ga K q.1)) q.2) (some (some (.ref (pA K q.1 q.2)))) && (eqO (specialIn K (.ref (pA K q.1 q.2)) "__get__") (some (some (.builtin "property.__get__"))) &&
  (decide (takesIn K (.ref (pA K q.1 q.2)) = some true) && (match recIn K (pA K q.1 q.2) "property" with
    | some (.ref _ :: _) => true
    | _ => false)))
theorem prB_ok {K : Frag} {q : Str × Str} (h : prB K q = true) : PropOf K (ga K q.1) q.2 (pA K q.1 q.2) (pG K q.1 q.2) := by
  obtain ⟨h1, h⟩ := ba h
  obtain ⟨h2, h⟩ := ba h
  obtain ⟨h3, h4⟩ := ba h
  refine ⟨eqO_ok h1, eqO_ok h2, of_decide_eq_true h3, ?_⟩
  unfold pG
  cases e : recIn K (pA K q.1 q.2) "property" with
  | none =>
    rw [e] at h4
    cases h4
  | some l =>
    rw [e] at h4
    cases l with
    | nil => cases h4
    | cons v r =>
      cases v with
      | ref a => exact ⟨r, rfl⟩
      | _ => cases h4
/-! ### InvalidText -/
abbrev iC (K : Frag) : Addr := ga K "InvalidText"
abbrev iI (K : Frag) : Addr := ma K (iC K) "__init__"
def iFd (K : Frag) : Option FuncData := match K.lookup (iI K) with
  | some ⟨_, _, .func fd, _⟩ => some fd
  | _ => none
def iCc (K : Frag) : Addr := match iFd K with
  | some fd => (match fd.closure with
    | (_, a) :: _ => a
    | _ => 0)
  | none => 0
def iCd (K : Frag) : Addr := match iFd K with
  | some fd => (match fd.code with
    | .ref a => a
    | _ => 0)
  | none => 0
abbrev ItV : Type := Option (Str × Str × Arguments × FuncBody × Scope × Addr × List Str × Addr)
def itObs (K : Frag) : ItV := match iFd K with
  | some fd => some (fd.name, fd.qualname, fd.params, fd.body, fd.scope, fd.globals, fd.closure.map (·.1), fd.builtins)
  | none => none
def itVal : ItV := some ("__init__", "InvalidText.__init__", defArgs sIT, .stmts (defBody sIT), defScope sIT, mainGlobals, ["__class__"], builtinsNs)
def itClsB (K : Frag) : Bool := match K.lookup (iC K) with
  | some ⟨.type c, _, .cls cd, sl⟩ => (match cd.mro, sl.toList with
    | .ref C' :: bm, [_, _, _, _, some (.builtin n), _] => decide (c = "type") && (decide (C' = iC K) && (decide (n = "ValueError.__new__") && (!cd.hasDel && (cd.hasDict && PySem.HandSPX.refsVE bm))))
    | _, _ => false)
  | _ => false
def itFnB (K : Frag) : Bool := match iFd K with
  | some fd => (match fd.code with
    | .ref _ => true
    | _ => false) && (codeIn K fd.code "InvalidText.__init__" && (match fd.defaults with
    | .none => true
    | _ => false))
  | none => false
def itCellB (K : Frag) : Bool := match K.lookup (iCc K) with
  | some ⟨_, _, .cell (some (.ref a)), _⟩ => decide (a = iC K)
  | _ => false
def itFileB (f : Str) (K : Frag) : Bool := match K.lookup (iCd K) with
  | some ⟨_, _, .fields vs, _⟩ => (match (vs[2]? : Option Value) with
    | some (.str z _) => f == z
    | _ => false)
  | _ => false
def itB (f : Str) (K : Frag) : Bool := itClsB K && (itFnB K && (itCellB K && (itFileB f K && (eqO (findIn K (.ref (iC K)) "__setattr__") (some (some (.builtin "object.__setattr__"))) && (eqO (findIn K (.ref (iC K)) "row") (some none) &&
  (eqO (findIn K (.ref (iC K)) "word") (some none) && (eqO (findIn K (.ref (iC K)) "__init__") (some (some (.ref (iI K)))) && (decide (typeIn K (.ref (iI K)) = some (.type "function")) && (keepIn K (.ref (iC K)) &&
  (decide (subIn K (.ref (iC K)) (.type "BaseException") = some true) && (decide (subIn K (.ref (iC K)) (.type "ValueError") = some true) && (decide (typeIn K (.ref (iC K)) = some (.type "type")) && (eqO (nsIn K cStatics "thirdparty.any") (some none) &&
  (eqO (ks_superIn K (iC K) (iC K) "__init__") (some (some (.builtin "ValueError.__init__"))) && decide (mroIn K (iC K) (.ref (iC K)) = some true)))))))))))))))
def isB (K : Frag) : Bool := (clsIn K (iC K)).isSome && (eqO (findIn K (.ref (iC K)) "__getattribute__") (some (some (.builtin "BaseException.__getattribute__"))) && (eqO (findIn K (.ref (iC K)) "__getattr__") (some none) &&
  (decide (subIn K (.ref (iC K)) (.type "BaseException") = some true) && (eqO (findIn K (.ref (iC K)) "__class__") (some (some (.builtin "object.__class__"))) && (eqO (specialIn K (.builtin "object.__class__") "__get__") (some (some (.builtin "getset_descriptor.__get__"))) &&
  (decide (takesIn K (.builtin "object.__class__") = some true) && (decide (mroIn K (iC K) (.type "object") = some true) && hasDictIn K (iC K))))))))
theorem is_of {K : Frag} (h : isB K = true) : IsIT K (iC K) ∧ XfC K (iC K) := by
  obtain ⟨h1, h⟩ := ba h
  obtain ⟨h2, h⟩ := ba h
  obtain ⟨h3, h⟩ := ba h
  obtain ⟨h4, h⟩ := ba h
  obtain ⟨h5, h⟩ := ba h
  obtain ⟨h6, h⟩ := ba h
  obtain ⟨h7, h⟩ := ba h
  obtain ⟨h8, h9⟩ := ba h
  exact ⟨⟨h1, eqO_ok h2, eqO_ok h3, of_decide_eq_true h4, eqO_ok h5, eqO_ok h6, of_decide_eq_true h7, of_decide_eq_true h8⟩, ⟨eqO_ok h2, eqO_ok h3, of_decide_eq_true h4, h9⟩⟩
theorem itCls_of {K : Frag} (h : itClsB K = true) : ∃ nm q N bs bm sn sub ab col dd k0 k1 k2 k3 k5, K.lookup (iC K) = some (excClassObj nm q (iC K) N bs bm true sn sub ab col dd k0 k1 k2 k3 k5 "ValueError.__new__") ∧ PySem.HandSPX.refsVE bm = true := by
  unfold itClsB at h
  cases q : K.lookup (iC K) with
  | none =>
    rw [q] at h
    cases h
  | some o =>
    obtain ⟨oc, od, dt, sl⟩ := o
    rw [q] at h
    cases oc with
    | type c =>
      cases dt with
      | cls cd =>
        obtain ⟨nm, bs, mro, ns, qn, hd, sn, sub, ab, col, del⟩ := cd
        obtain ⟨l⟩ := sl
        dsimp only at h
        cases mro with
        | nil => cases h
        | cons v bm =>
          cases v with
          | ref C' =>
            match l, h with
            | [k0, k1, k2, k3, some (.builtin n), k5], h =>
              have h' : (decide (c = "type") && (decide (C' = iC K) && (decide (n = "ValueError.__new__") && (!del && (hd && PySem.HandSPX.refsVE bm))))) = true := h
              obtain ⟨g1, h'⟩ := ba h'
              obtain ⟨g2, h'⟩ := ba h'
              obtain ⟨g3, h'⟩ := ba h'
              obtain ⟨g4, h'⟩ := ba h'
              obtain ⟨g5, g6⟩ := ba h'
              have e1 := of_decide_eq_true g1
              have e2 := of_decide_eq_true g2
              have e3 := of_decide_eq_true g3
              have e4 : del = false := by
                cases del with
                | false => rfl
                | true => cases g4
              refine ⟨nm, qn, ns, bs, bm, sn, sub, ab, col, od, k0, k1, k2, k3, k5, ?_, g6⟩
              rw [e1, e2, e3, e4, g5]
              all_goals rfl
          | _ => cases h
      | _ => cases h
    | _ => cases h
theorem it_of {P : Program} {K : Frag} {mg : Str → Option Value} (hg : mg "InvalidText" = some (.ref (iC K))) (hs : mg "super" = none) (ht : (P.main.scope.names.lookup ("super" : Str)).isSome = false) (e : itObs K = itVal) (h : itB P.main.file K = true) : ITxt P K mg (iC K) (iI K) (iCc K) (iCd K) := by
  obtain ⟨h1, h⟩ := ba h
  obtain ⟨h2, h⟩ := ba h
  obtain ⟨h3, h⟩ := ba h
  obtain ⟨h4, h⟩ := ba h
  obtain ⟨h5, h⟩ := ba h
  obtain ⟨h6, h⟩ := ba h
  obtain ⟨h7, h⟩ := ba h
  obtain ⟨h8, h⟩ := ba h
  obtain ⟨h9, h⟩ := ba h
  obtain ⟨h10, h⟩ := ba h
  obtain ⟨h11, h⟩ := ba h
  obtain ⟨h12, h⟩ := ba h
  obtain ⟨h13, h⟩ := ba h
  obtain ⟨h14, h⟩ := ba h
  obtain ⟨h15, h16⟩ := ba h
  refine ⟨hg, hs, itCls_of h1, eqO_ok h5, eqO_ok h6, eqO_ok h7, eqO_ok h8, of_decide_eq_true h9, h10, of_decide_eq_true h11, of_decide_eq_true h12, of_decide_eq_true h13, eqO_ok h14, eqO_ok h15, of_decide_eq_true h16, ?_, ?_, ht, ?_⟩
  · unfold itCellB at h3
    cases q : K.lookup (iCc K) with
    | none =>
      rw [q] at h3
      cases h3
    | some o =>
      obtain ⟨oc, od, dt, sl⟩ := o
      rw [q] at h3
      cases dt with
      | cell v =>
        cases v with
        | none => cases h3
        | some v =>
          cases v with
          | ref a =>
            have e2 : a = iC K := of_decide_eq_true h3
            rw [e2]
            exact ⟨_, _, _, rfl⟩
          | _ => cases h3
      | _ => cases h3
  · unfold itFileB at h4
    cases q : K.lookup (iCd K) with
    | none =>
      rw [q] at h4
      cases h4
    | some o =>
      obtain ⟨oc, od, dt, sl⟩ := o
      rw [q] at h4
      cases dt with
      | fields vs =>
        cases q2 : vs[2]? with
        | none =>
          have h4' : (match (vs[2]? : Option Value) with
            | some (.str z _) => P.main.file == z
            | _ => false) = true := h4
          rw [q2] at h4'
          cases h4'
        | some v =>
          have h4' : (match (vs[2]? : Option Value) with
            | some (.str z _) => P.main.file == z
            | _ => false) = true := h4
          rw [q2] at h4'
          cases v with
          | str z tf => exact ⟨_, _, vs, _, z, tf, rfl, q2, h4'⟩
          | _ => cases h4'
      | _ => cases h4
  · unfold itFnB at h2
    unfold itObs at e
    have ea : iCc K = iCc K := rfl
    cases q : iFd K with
    | none =>
      rw [q] at h2
      cases h2
    | some fd =>
      rw [q] at h2 e
      have q0 : ∃ oc od osl, K.lookup (iI K) = some ⟨oc, od, .func fd, osl⟩ := by
        unfold iFd at q
        split at q
        · rename_i c1 c2 c3 c4 c5
          cases q
          exact ⟨_, _, _, c5⟩
        · cases q
      obtain ⟨oc, od, osl, lk⟩ := q0
      have ec : ∀ x, fd.closure = [(("__class__" : Str), x)] → iCc K = x := fun x hx => by
        unfold iCc
        rw [q]
        show (match fd.closure with
          | (_, a) :: _ => a
          | _ => 0) = x
        rw [hx]
      have ed : ∀ x, fd.code = .ref x → iCd K = x := fun x hx => by
        unfold iCd
        rw [q]
        show (match fd.code with
          | .ref a => a
          | _ => 0) = x
        rw [hx]
      obtain ⟨a1, a2, a3, a4, a5, a6, a7, a8, a9, b1, b2, b3, b4, b5, b6⟩ := fd
      have e2 : (some (a1, a2, a3, a4, a5, a6, a7.map (·.1), b6) : ItV) = itVal := e
      unfold itVal at e2
      simp only [Option.some.injEq, Prod.mk.injEq] at e2
      obtain ⟨z1, z2, z3, z4, z5, z6, z7, z8⟩ := e2
      obtain ⟨g1, h2'⟩ := ba h2
      obtain ⟨g2, g3⟩ := ba h2'
      cases a7 with
      | nil => cases z7
      | cons y r =>
        obtain ⟨y1, y2⟩ := y
        have z7' : y1 :: r.map (·.1) = [("__class__" : Str)] := z7
        injection z7' with z9 z10
        have er : r = [] := by
          cases r with
          | nil => rfl
          | cons _ _ => cases z10
        subst er z9
        subst z1 z2 z3 z4 z5 z6 z8
        cases b4 with
        | ref cd =>
          cases a8 with
          | none =>
            have k1 := ec y2 rfl
            have k2 := ed cd rfl
            rw [k1, k2]
            exact ⟨oc, od, a9, b1, b2, b3, b5, osl, lk, g2⟩
          | _ => cases g3
        | _ => cases g1
/-! ### the hook -/
def asK (g : Addr → Option Obj) : Nat → List Addr
  | 0 => [mainGlobals, cStatics]
  | n + 1 => growD g (asK g n)
abbrev AlK : Type := Bool × List FnW × ItV
def resL : List Dv := [.str "facts", .str "is", .str "if", .str "not", .str "else"]
def obsK (f : Str) (K : Frag) : AlK := ((faL.all fun z => z.ok K) && ((fnL.all fun d => d.ok K) && ((prL.all fun q => prB K q) && (tupB K "RESERVED" resL && (itB f K && isB K)))), fnL.map fun d => fnAt K (d.ad K), itObs K)
def valK : AlK := (true, fnL.map DA.val, itVal)
def obsKG (n : Nat) (f : Str) (g : Addr → Option Obj) : AlK := obsK f (frG g (asK g n))
def hookK (n : Nat) (f : Str) : Hook where
  α := AlK
  obs := fun s => obsKG n f s.heap.get?
  val := fun _ => valK
  says := fun _ h => ∃ K : Frag, K.In h ∧ obsK f K = valK
  of := fun _ _ e => ⟨_, frG_in, e⟩
  keeps := fun _ _ _ ⟨K, hK, c⟩ k => ⟨K, Frag.In.keeps hK k, c⟩
theorem obsKG_eq {n : Nat} {f : Str} {g : Addr → Option Obj} {s : Shared} (h : ∀ a, g a = s.heap.get? a) : obsKG n f g = (hookK n f).obs s := by
  have e : g = s.heap.get? := funext h
  rw [e] <;> rfl
/-! ### the facts, by names -/
structure TX (P : Program) (K : Frag) (mg : Str → Option Value) : Prop where
  fact : ∀ (i : Nat) (f : Fa), faL[i]? = some f → f.ok K = true
  glo : ∀ x, (Fa.glo x).ok K = true → mg x = some (.ref (ga K x))
  free : ∀ x, (Fa.free x).ok K = true → mg x = none
  int : ∀ x i, (Fa.int x i).ok K = true → ∃ t, mg x = some (.int i t)
  str : ∀ x z, (Fa.str x z).ok K = true → ∃ t, mg x = some (.str z t)
  def_ : ∀ (i : Nat) (d : DA), fnL[i]? = some d → ∃ fd, Fun K d.name d.qual d.st (d.ad K) fd
  prop : ∀ (i : Nat) (q : Str × Str), prL[i]? = some q → PropOf K (ga K q.1) q.2 (pA K q.1 q.2) (pG K q.1 q.2)
  res : ∀ H, SqT K H (ga K "RESERVED") [.str "facts", .str "is", .str "if", .str "not", .str "else"]
  it : ITxt P K mg (iC K) (iI K) (iCc K) (iCd K)
  isit : IsIT K (iC K)
  xf : XfC K (iC K)
theorem tx_of {P : Program} {K : Frag} {h : Heap} {mg : Str → Option Value} (X : K.In h) (G : h.Ns mainGlobals mg) (ht : (P.main.scope.names.lookup ("super" : Str)).isSome = false) (c : obsK P.main.file K = valK) : TX P K mg := by
  have c0 : ((faL.all fun z => z.ok K) && ((fnL.all fun d => d.ok K) && ((prL.all fun q => prB K q) && (tupB K "RESERVED" resL && (itB P.main.file K && isB K))))) = true := congrArg (fun z : AlK => z.1) c
  have c1 : (fnL.map fun d => fnAt K (d.ad K)) = fnL.map DA.val := congrArg (fun z : AlK => z.2.1) c
  have c2 : itObs K = itVal := congrArg (fun z : AlK => z.2.2) c
  obtain ⟨k1, c0⟩ := ba c0
  obtain ⟨k2, c0⟩ := ba c0
  obtain ⟨k3, c0⟩ := ba c0
  obtain ⟨k4, c0⟩ := ba c0
  obtain ⟨k5, k6⟩ := ba c0
  have fact : ∀ (i : Nat) (f : Fa), faL[i]? = some f → f.ok K = true := fun i f e => List.all_eq_true.mp k1 f (List.mem_of_getElem? e)
  exact {
    fact := fact
    glo := fun x e => glo_ok X G e
    free := fun x e => free_ok X G e
    int := fun x i e => int_ok X G e
    str := fun x z e => str_ok X G e
    def_ := fun i d e => by
      have e2 : (fnL.map fun d => fnAt K (d.ad K))[i]? = (fnL.map DA.val)[i]? := by rw [c1]
      rw [List.getElem?_map, List.getElem?_map, e] at e2
      exact DA.fun_ (Option.some.inj e2) (List.all_eq_true.mp k2 d (List.mem_of_getElem? e))
    prop := fun i q e => prB_ok (List.all_eq_true.mp k3 q (List.mem_of_getElem? e))
    res := fun H => tupB_ok k4 H
    it := it_of (glo_ok X G (fact 37 _ rfl)) (free_ok X G (fact 54 _ rfl)) ht c2 k5
    isit := (is_of k6).1
    xf := (is_of k6).2 }
section
variable {P : Program} {K : Frag} {mg : Str → Option Value} (T : TX P K mg)
include T
theorem TX.g_is_name : mg "is_name" = some (.ref (ga K "is_name")) := T.glo _ (T.fact 0 _ rfl)
theorem TX.g_validate_facts : mg "validate_facts" = some (.ref (ga K "validate_facts")) := T.glo _ (T.fact 1 _ rfl)
theorem TX.g_rows_of_books : mg "rows_of_books" = some (.ref (ga K "rows_of_books")) := T.glo _ (T.fact 2 _ rfl)
theorem TX.g_is_free_name : mg "is_free_name" = some (.ref (ga K "is_free_name")) := T.glo _ (T.fact 3 _ rfl)
theorem TX.g_rows_of_notation : mg "rows_of_notation" = some (.ref (ga K "rows_of_notation")) := T.glo _ (T.fact 4 _ rfl)
theorem TX.g_read_facts : mg "read_facts" = some (.ref (ga K "read_facts")) := T.glo _ (T.fact 5 _ rfl)
theorem TX.g_read_side : mg "read_side" = some (.ref (ga K "read_side")) := T.glo _ (T.fact 6 _ rfl)
theorem TX.g_read_condition : mg "read_condition" = some (.ref (ga K "read_condition")) := T.glo _ (T.fact 7 _ rfl)
theorem TX.g_read_rule : mg "read_rule" = some (.ref (ga K "read_rule")) := T.glo _ (T.fact 8 _ rfl)
theorem TX.g_rules_of : mg "rules_of" = some (.ref (ga K "rules_of")) := T.glo _ (T.fact 9 _ rfl)
theorem TX.g_parse_book : mg "parse_book" = some (.ref (ga K "parse_book")) := T.glo _ (T.fact 10 _ rfl)
theorem TX.g_book_of : mg "book_of" = some (.ref (ga K "book_of")) := T.glo _ (T.fact 11 _ rfl)
theorem TX.g_l_mix : mg "_law_mix" = some (.ref (ga K "_law_mix")) := T.glo _ (T.fact 12 _ rfl)
theorem TX.g_l_next : mg "_law_next" = some (.ref (ga K "_law_next")) := T.glo _ (T.fact 13 _ rfl)
theorem TX.g_l_alike : mg "_law_alike" = some (.ref (ga K "_law_alike")) := T.glo _ (T.fact 14 _ rfl)
theorem TX.g_l_facts : mg "_law_facts" = some (.ref (ga K "_law_facts")) := T.glo _ (T.fact 15 _ rfl)
theorem TX.g_l_sides : mg "_law_sides" = some (.ref (ga K "_law_sides")) := T.glo _ (T.fact 16 _ rfl)
theorem TX.g_l_rule : mg "_law_rule" = some (.ref (ga K "_law_rule")) := T.glo _ (T.fact 17 _ rfl)
theorem TX.g_l_drawn : mg "_law_drawn" = some (.ref (ga K "_law_drawn")) := T.glo _ (T.fact 18 _ rfl)
theorem TX.g_l_told : mg "_law_told" = some (.ref (ga K "_law_told")) := T.glo _ (T.fact 19 _ rfl)
theorem TX.g_l_seen : mg "_law_seen" = some (.ref (ga K "_law_seen")) := T.glo _ (T.fact 20 _ rfl)
theorem TX.g_l_words : mg "_law_words" = some (.ref (ga K "_law_words")) := T.glo _ (T.fact 21 _ rfl)
theorem TX.g_l_rows_of : mg "_law_rows_of" = some (.ref (ga K "_law_rows_of")) := T.glo _ (T.fact 22 _ rfl)
theorem TX.g_l_text : mg "_law_text" = some (.ref (ga K "_law_text")) := T.glo _ (T.fact 23 _ rfl)
theorem TX.g_l_named : mg "_law_named" = some (.ref (ga K "_law_named")) := T.glo _ (T.fact 24 _ rfl)
theorem TX.g_l_read_facts : mg "_law_read_facts" = some (.ref (ga K "_law_read_facts")) := T.glo _ (T.fact 25 _ rfl)
theorem TX.g_l_read_side : mg "_law_read_side" = some (.ref (ga K "_law_read_side")) := T.glo _ (T.fact 26 _ rfl)
theorem TX.g_l_read_rule : mg "_law_read_rule" = some (.ref (ga K "_law_read_rule")) := T.glo _ (T.fact 27 _ rfl)
theorem TX.g_l_nested : mg "_law_nested" = some (.ref (ga K "_law_nested")) := T.glo _ (T.fact 28 _ rfl)
theorem TX.g_l_read : mg "_law_read" = some (.ref (ga K "_law_read")) := T.glo _ (T.fact 29 _ rfl)
theorem TX.g_l_parsed : mg "_law_parsed" = some (.ref (ga K "_law_parsed")) := T.glo _ (T.fact 30 _ rfl)
theorem TX.g_l_bent : mg "_law_bent" = some (.ref (ga K "_law_bent")) := T.glo _ (T.fact 31 _ rfl)
theorem TX.g_law : mg "law" = some (.ref (ga K "law")) := T.glo _ (T.fact 32 _ rfl)
theorem TX.g_Row : mg "Row" = some (.ref (ga K "Row")) := T.glo _ (T.fact 33 _ rfl)
theorem TX.g_Rule : mg "Rule" = some (.ref (ga K "Rule")) := T.glo _ (T.fact 34 _ rfl)
theorem TX.g_Book : mg "Book" = some (.ref (ga K "Book")) := T.glo _ (T.fact 35 _ rfl)
theorem TX.g_Condition : mg "Condition" = some (.ref (ga K "Condition")) := T.glo _ (T.fact 36 _ rfl)
theorem TX.g_InvalidText : mg "InvalidText" = some (.ref (ga K "InvalidText")) := T.glo _ (T.fact 37 _ rfl)
theorem TX.g_CourtError : mg "CourtError" = some (.ref (ga K "CourtError")) := T.glo _ (T.fact 38 _ rfl)
theorem TX.g_RESERVED : mg "RESERVED" = some (.ref (ga K "RESERVED")) := T.glo _ (T.fact 39 _ rfl)
theorem TX.b_len : mg "len" = none := T.free _ (T.fact 40 _ rfl)
theorem TX.b_min : mg "min" = none := T.free _ (T.fact 41 _ rfl)
theorem TX.b_max : mg "max" = none := T.free _ (T.fact 42 _ rfl)
theorem TX.b_isinstance : mg "isinstance" = none := T.free _ (T.fact 43 _ rfl)
theorem TX.b_sorted : mg "sorted" = none := T.free _ (T.fact 44 _ rfl)
theorem TX.b_range : mg "range" = none := T.free _ (T.fact 45 _ rfl)
theorem TX.b_enumerate : mg "enumerate" = none := T.free _ (T.fact 46 _ rfl)
theorem TX.b_zip : mg "zip" = none := T.free _ (T.fact 47 _ rfl)
theorem TX.b_int : mg "int" = none := T.free _ (T.fact 48 _ rfl)
theorem TX.b_tuple : mg "tuple" = none := T.free _ (T.fact 49 _ rfl)
theorem TX.b_list : mg "list" = none := T.free _ (T.fact 50 _ rfl)
theorem TX.b_dict : mg "dict" = none := T.free _ (T.fact 51 _ rfl)
theorem TX.b_str : mg "str" = none := T.free _ (T.fact 52 _ rfl)
theorem TX.b_bool : mg "bool" = none := T.free _ (T.fact 53 _ rfl)
theorem TX.b_super : mg "super" = none := T.free _ (T.fact 54 _ rfl)
theorem TX.i_LONGEST : ∃ t, mg "LONGEST" = some (.int 8 t) := T.int _ _ (T.fact 55 _ rfl)
theorem TX.i_MAX_FACTS : ∃ t, mg "MAX_FACTS" = some (.int 60 t) := T.int _ _ (T.fact 56 _ rfl)
theorem TX.i_MAX_OUTERMOST : ∃ t, mg "MAX_OUTERMOST" = some (.int 40 t) := T.int _ _ (T.fact 57 _ rfl)
theorem TX.i_MAX_RULES : ∃ t, mg "MAX_RULES" = some (.int 60 t) := T.int _ _ (T.fact 58 _ rfl)
theorem TX.i_MAX_OPEN : ∃ t, mg "MAX_OPEN" = some (.int 5 t) := T.int _ _ (T.fact 59 _ rfl)
theorem TX.i_MAX_NAMES : ∃ t, mg "MAX_NAMES" = some (.int 8 t) := T.int _ _ (T.fact 60 _ rfl)
theorem TX.s_LETTERS : ∃ t, mg "LETTERS" = some (.str "abcdefghijklmnopqrstuvwxyz" t) := T.str _ _ (T.fact 61 _ rfl)
theorem TX.s_DEEPER : ∃ t, mg "DEEPER" = some (.str ">" t) := T.str _ _ (T.fact 62 _ rfl)
theorem TX.c_Row : Cls K (ga K "Row") := cls_ok (T.fact 63 _ rfl)
theorem TX.k_Row : Mk K (ga K "Row") (ma K (ga K "Row") "__init__") := mkr_ok (T.fact 64 _ rfl)
theorem TX.n_number : NoAttr K (ga K "Row") "number" := noat_ok (T.fact 65 _ rfl)
theorem TX.n_words : NoAttr K (ga K "Row") "words" := noat_ok (T.fact 66 _ rfl)
theorem TX.n_place : NoAttr K (ga K "Row") "place" := noat_ok (T.fact 67 _ rfl)
theorem TX.c_Rule : Cls K (ga K "Rule") := cls_ok (T.fact 68 _ rfl)
theorem TX.k_Rule : Mk K (ga K "Rule") (ma K (ga K "Rule") "__init__") := mkr_ok (T.fact 69 _ rfl)
theorem TX.n_own_name : NoAttr K (ga K "Rule") "own_name" := noat_ok (T.fact 70 _ rfl)
theorem TX.n_own_condition : NoAttr K (ga K "Rule") "own_condition" := noat_ok (T.fact 71 _ rfl)
theorem TX.n_own_ruling : NoAttr K (ga K "Rule") "own_ruling" := noat_ok (T.fact 72 _ rfl)
theorem TX.n_inner : NoAttr K (ga K "Rule") "inner" := noat_ok (T.fact 73 _ rfl)
theorem TX.c_Book : Cls K (ga K "Book") := cls_ok (T.fact 74 _ rfl)
theorem TX.k_Book : Mk K (ga K "Book") (ma K (ga K "Book") "__init__") := mkr_ok (T.fact 75 _ rfl)
theorem TX.n_all_facts : NoAttr K (ga K "Book") "all_facts" := noat_ok (T.fact 76 _ rfl)
theorem TX.n_outermost : NoAttr K (ga K "Book") "outermost" := noat_ok (T.fact 77 _ rfl)
theorem TX.n_last_ruling : NoAttr K (ga K "Book") "last_ruling" := noat_ok (T.fact 78 _ rfl)
theorem TX.n_rows : NoAttr K (ga K "Book") "rows" := noat_ok (T.fact 79 _ rfl)
theorem TX.c_Condition : Cls K (ga K "Condition") := cls_ok (T.fact 80 _ rfl)
theorem TX.k_Condition : Mk K (ga K "Condition") (ma K (ga K "Condition") "__init__") := mkr_ok (T.fact 81 _ rfl)
theorem TX.n_wanted : NoAttr K (ga K "Condition") "wanted" := noat_ok (T.fact 82 _ rfl)
theorem TX.n_barred : NoAttr K (ga K "Condition") "barred" := noat_ok (T.fact 83 _ rfl)
theorem TX.m_validate_rows : Meth K (ga K "Book") "validate_rows" (ma K (ga K "Book") "validate_rows") := meth_ok (T.fact 84 _ rfl)
theorem TX.m_peek : Meth K (ga K "Row") "peek" (ma K (ga K "Row") "peek") := meth_ok (T.fact 85 _ rfl)
theorem TX.m_is_over : Meth K (ga K "Row") "is_over" (ma K (ga K "Row") "is_over") := meth_ok (T.fact 86 _ rfl)
theorem TX.m_check : Meth K (ga K "Row") "check" (ma K (ga K "Row") "check") := meth_ok (T.fact 87 _ rfl)
theorem TX.m_take : Meth K (ga K "Row") "take" (ma K (ga K "Row") "take") := meth_ok (T.fact 88 _ rfl)
theorem TX.m_take_name : Meth K (ga K "Row") "take_name" (ma K (ga K "Row") "take_name") := meth_ok (T.fact 89 _ rfl)
theorem TX.m_end : Meth K (ga K "Row") "end" (ma K (ga K "Row") "end") := meth_ok (T.fact 90 _ rfl)
theorem TX.exm : exmOne K (.ref (ga K "InvalidText")) (.ref (ga K "CourtError")) = some true := exm_ok (T.fact 91 _ rfl)
theorem TX.d_is_name : ∃ fd, Fun K "is_name" "is_name" sIsName (ga K "is_name") fd := T.def_ 0 _ rfl
theorem TX.d_validate_facts : ∃ fd, Fun K "validate_facts" "validate_facts" sVFacts (ga K "validate_facts") fd := T.def_ 1 _ rfl
theorem TX.d_rows_of_books : ∃ fd, Fun K "rows_of" "rows_of" sRowsB (ga K "rows_of_books") fd := T.def_ 2 _ rfl
theorem TX.d_is_free_name : ∃ fd, Fun K "is_free_name" "is_free_name" sFree (ga K "is_free_name") fd := T.def_ 3 _ rfl
theorem TX.d_rows_of_notation : ∃ fd, Fun K "rows_of" "rows_of" sRowsN (ga K "rows_of_notation") fd := T.def_ 4 _ rfl
theorem TX.d_read_facts : ∃ fd, Fun K "read_facts" "read_facts" sRFacts (ga K "read_facts") fd := T.def_ 5 _ rfl
theorem TX.d_read_side : ∃ fd, Fun K "read_side" "read_side" sRSide (ga K "read_side") fd := T.def_ 6 _ rfl
theorem TX.d_read_condition : ∃ fd, Fun K "read_condition" "read_condition" sRCond (ga K "read_condition") fd := T.def_ 7 _ rfl
theorem TX.d_read_rule : ∃ fd, Fun K "read_rule" "read_rule" sRRule (ga K "read_rule") fd := T.def_ 8 _ rfl
theorem TX.d_rules_of : ∃ fd, Fun K "rules_of" "rules_of" sRulesOf (ga K "rules_of") fd := T.def_ 9 _ rfl
theorem TX.d_parse_book : ∃ fd, Fun K "parse_book" "parse_book" sParse (ga K "parse_book") fd := T.def_ 10 _ rfl
theorem TX.d_book_of : ∃ fd, Fun K "book_of" "book_of" sBookOf (ga K "book_of") fd := T.def_ 11 _ rfl
theorem TX.d_l_mix : ∃ fd, Fun K "_law_mix" "_law_mix" sMix (ga K "_law_mix") fd := T.def_ 12 _ rfl
theorem TX.d_l_next : ∃ fd, Fun K "_law_next" "_law_next" sNext (ga K "_law_next") fd := T.def_ 13 _ rfl
theorem TX.d_l_alike : ∃ fd, Fun K "_law_alike" "_law_alike" sAlike (ga K "_law_alike") fd := T.def_ 14 _ rfl
theorem TX.d_l_facts : ∃ fd, Fun K "_law_facts" "_law_facts" sFacts (ga K "_law_facts") fd := T.def_ 15 _ rfl
theorem TX.d_l_sides : ∃ fd, Fun K "_law_sides" "_law_sides" sSides (ga K "_law_sides") fd := T.def_ 16 _ rfl
theorem TX.d_l_rule : ∃ fd, Fun K "_law_rule" "_law_rule" sRule (ga K "_law_rule") fd := T.def_ 17 _ rfl
theorem TX.d_l_drawn : ∃ fd, Fun K "_law_drawn" "_law_drawn" sDrawn (ga K "_law_drawn") fd := T.def_ 18 _ rfl
theorem TX.d_l_told : ∃ fd, Fun K "_law_told" "_law_told" sTold (ga K "_law_told") fd := T.def_ 19 _ rfl
theorem TX.d_l_seen : ∃ fd, Fun K "_law_seen" "_law_seen" sSeen (ga K "_law_seen") fd := T.def_ 20 _ rfl
theorem TX.d_l_words : ∃ fd, Fun K "_law_words" "_law_words" sWords (ga K "_law_words") fd := T.def_ 21 _ rfl
theorem TX.d_l_rows_of : ∃ fd, Fun K "_law_rows_of" "_law_rows_of" sRowsOf (ga K "_law_rows_of") fd := T.def_ 22 _ rfl
theorem TX.d_l_text : ∃ fd, Fun K "_law_text" "_law_text" sText (ga K "_law_text") fd := T.def_ 23 _ rfl
theorem TX.d_l_named : ∃ fd, Fun K "_law_named" "_law_named" sNamed (ga K "_law_named") fd := T.def_ 24 _ rfl
theorem TX.d_l_read_facts : ∃ fd, Fun K "_law_read_facts" "_law_read_facts" sLFacts (ga K "_law_read_facts") fd := T.def_ 25 _ rfl
theorem TX.d_l_read_side : ∃ fd, Fun K "_law_read_side" "_law_read_side" sLSide (ga K "_law_read_side") fd := T.def_ 26 _ rfl
theorem TX.d_l_read_rule : ∃ fd, Fun K "_law_read_rule" "_law_read_rule" sLRule (ga K "_law_read_rule") fd := T.def_ 27 _ rfl
theorem TX.d_l_nested : ∃ fd, Fun K "_law_nested" "_law_nested" sNested (ga K "_law_nested") fd := T.def_ 28 _ rfl
theorem TX.d_l_read : ∃ fd, Fun K "_law_read" "_law_read" sRead (ga K "_law_read") fd := T.def_ 29 _ rfl
theorem TX.d_l_parsed : ∃ fd, Fun K "_law_parsed" "_law_parsed" sParsed (ga K "_law_parsed") fd := T.def_ 30 _ rfl
theorem TX.d_l_bent : ∃ fd, Fun K "_law_bent" "_law_bent" sBent (ga K "_law_bent") fd := T.def_ 31 _ rfl
theorem TX.d_law : ∃ fd, Fun K "law" "law" sLaw (ga K "law") fd := T.def_ 32 _ rfl
theorem TX.d_Rule_init : ∃ fd, Fun K "__init__" "Rule.__init__" sRuleI (ma K (ga K "Rule") "__init__") fd := T.def_ 33 _ rfl
theorem TX.d_Book_init : ∃ fd, Fun K "__init__" "Book.__init__" sBookI (ma K (ga K "Book") "__init__") fd := T.def_ 34 _ rfl
theorem TX.d_Book_validate_rows : ∃ fd, Fun K "validate_rows" "Book.validate_rows" sBookV (ma K (ga K "Book") "validate_rows") fd := T.def_ 35 _ rfl
theorem TX.d_Condition_init : ∃ fd, Fun K "__init__" "Condition.__init__" sCondI (ma K (ga K "Condition") "__init__") fd := T.def_ 36 _ rfl
theorem TX.d_Row_init : ∃ fd, Fun K "__init__" "Row.__init__" sRowI (ma K (ga K "Row") "__init__") fd := T.def_ 37 _ rfl
theorem TX.d_Row_peek : ∃ fd, Fun K "peek" "Row.peek" sPeek (ma K (ga K "Row") "peek") fd := T.def_ 38 _ rfl
theorem TX.d_Row_is_over : ∃ fd, Fun K "is_over" "Row.is_over" sOver (ma K (ga K "Row") "is_over") fd := T.def_ 39 _ rfl
theorem TX.d_Row_check : ∃ fd, Fun K "check" "Row.check" sCheck (ma K (ga K "Row") "check") fd := T.def_ 40 _ rfl
theorem TX.d_Row_take : ∃ fd, Fun K "take" "Row.take" sTake (ma K (ga K "Row") "take") fd := T.def_ 41 _ rfl
theorem TX.d_Row_take_name : ∃ fd, Fun K "take_name" "Row.take_name" sTakeN (ma K (ga K "Row") "take_name") fd := T.def_ 42 _ rfl
theorem TX.d_Row_end : ∃ fd, Fun K "end" "Row.end" sEnd (ma K (ga K "Row") "end") fd := T.def_ 43 _ rfl
theorem TX.d_Rule_name : ∃ fd, Fun K "name" "Rule.name" sRuleName (pG K "Rule" "name") fd := T.def_ 44 _ rfl
theorem TX.p_Rule_name : PropOf K (ga K "Rule") "name" (pA K "Rule" "name") (pG K "Rule" "name") := T.prop 0 _ rfl
theorem TX.d_Rule_condition : ∃ fd, Fun K "condition" "Rule.condition" sRuleCond (pG K "Rule" "condition") fd := T.def_ 45 _ rfl
theorem TX.p_Rule_condition : PropOf K (ga K "Rule") "condition" (pA K "Rule" "condition") (pG K "Rule" "condition") := T.prop 1 _ rfl
theorem TX.d_Rule_ruling : ∃ fd, Fun K "ruling" "Rule.ruling" sRuleRuling (pG K "Rule" "ruling") fd := T.def_ 46 _ rfl
theorem TX.p_Rule_ruling : PropOf K (ga K "Rule") "ruling" (pA K "Rule" "ruling") (pG K "Rule" "ruling") := T.prop 2 _ rfl
theorem TX.d_Rule_exceptions : ∃ fd, Fun K "exceptions" "Rule.exceptions" sRuleExc (pG K "Rule" "exceptions") fd := T.def_ 47 _ rfl
theorem TX.p_Rule_exceptions : PropOf K (ga K "Rule") "exceptions" (pA K "Rule" "exceptions") (pG K "Rule" "exceptions") := T.prop 3 _ rfl
theorem TX.d_Book_facts : ∃ fd, Fun K "facts" "Book.facts" sBookFacts (pG K "Book" "facts") fd := T.def_ 48 _ rfl
theorem TX.p_Book_facts : PropOf K (ga K "Book") "facts" (pA K "Book" "facts") (pG K "Book" "facts") := T.prop 4 _ rfl
theorem TX.d_Book_rules : ∃ fd, Fun K "rules" "Book.rules" sBookRules (pG K "Book" "rules") fd := T.def_ 49 _ rfl
theorem TX.p_Book_rules : PropOf K (ga K "Book") "rules" (pA K "Book" "rules") (pG K "Book" "rules") := T.prop 5 _ rfl
theorem TX.d_Book_ruling : ∃ fd, Fun K "ruling" "Book.ruling" sBookRuling (pG K "Book" "ruling") fd := T.def_ 50 _ rfl
theorem TX.p_Book_ruling : PropOf K (ga K "Book") "ruling" (pA K "Book" "ruling") (pG K "Book" "ruling") := T.prop 6 _ rfl
theorem TX.d_Condition_holding : ∃ fd, Fun K "holding" "Condition.holding" sCondH (pG K "Condition" "holding") fd := T.def_ 51 _ rfl
theorem TX.p_Condition_holding : PropOf K (ga K "Condition") "holding" (pA K "Condition" "holding") (pG K "Condition" "holding") := T.prop 7 _ rfl
theorem TX.d_Condition_failing : ∃ fd, Fun K "failing" "Condition.failing" sCondF (pG K "Condition" "failing") fd := T.def_ 52 _ rfl
theorem TX.p_Condition_failing : PropOf K (ga K "Condition") "failing" (pA K "Condition" "failing") (pG K "Condition" "failing") := T.prop 8 _ rfl
theorem TX.d_Condition_names : ∃ fd, Fun K "names" "Condition.names" sCondN (pG K "Condition" "names") fd := T.def_ 53 _ rfl
theorem TX.p_Condition_names : PropOf K (ga K "Condition") "names" (pA K "Condition" "names") (pG K "Condition" "names") := T.prop 9 _ rfl
end
end K56
set_option Elab.async false
set_option linter.all false
set_option maxRecDepth 100000
set_option maxHeartbeats 0
/-! K56, part H2: the top's run. -/
namespace K56
open PySem PySem.W PySem.Calls PyProof.Rows
abbrev R : OpenRow := OpenLaw.row PySem.Challenge.rw_smallcourt_k56_whole_wrong_texts_located
abbrev qv : Program := view R.prog [68]
def namesA : List PySem.Str := ["_wall", "__name__", "CourtError", "InvalidFacts", "InvalidCase", "InvalidCondition", "NeverMet", "InvalidRule", "InvalidBook", "UnknownRule", "InvalidText", "LETTERS", "LONGEST", "MAX_FACTS", "is_name", "validate_facts", "validate_case", "MAX_OUTERMOST", "MAX_RULES", "MAX_OPEN", "Rule", "rows_of", "rows_of_books", "Book", "with_inner", "left_out", "first_met", "way_of", "MAX_NAMES", "Condition"]
def namesB : List PySem.Str := ["DEEPER", "RESERVED", "is_free_name", "rows_of_notation", "Row", "read_facts", "read_side", "read_condition", "read_rule", "rules_of", "parse_book", "book_of", "_law_mix", "_law_next", "_law_alike", "_law_facts", "_law_sides", "_law_rule", "_law_drawn", "_law_told", "_law_seen", "_law_words", "_law_rows_of", "_law_text", "_law_named", "_law_read_facts", "_law_read_side", "_law_read_rule", "_law_nested", "_law_read"]
def namesC : List PySem.Str := ["_law_parsed", "_law_bent"]
def names : List PySem.Str := namesA ++ (namesB ++ namesC)
abbrev hk : Hook := hookK 5 R.prog.main.file
def ob (s : SharedT) : AlK := obsKG 5 R.prog.main.file (HandSHeadRun.getT s)
theorem ob_eq (s : SharedT) : ob s = hk.obs s.abs := obsKG_eq (HandSHeadRun.getT_eq s)
theorem run (w : World) : HandSHeadRun.RunEq R qv hk ob 8000 names w := by
  intro os
  kernel_rfl
end K56
set_option Elab.async false
set_option linter.all false
set_option maxRecDepth 100000
set_option maxHeartbeats 4000000
/-! K56, part R1: rules that the layer lacks. -/
namespace K56
open PySem PySem.Spec PyProof.Rows L2
section
variable {X : Cx}
/-! ### == and != with an empty list, an empty tuple -/
def rEqE (K : PySem.W.Frag) : R2 := fun x y H Q => ∃ a b xs, x = .ref a ∧ y = .ref b ∧ ((SqL K H a xs ∧ SqL K H b []) ∨ (SqT K H a xs ∧ SqT K H b [])) ∧ Q (.bl (decide (xs = []))) H
def rNeE (K : PySem.W.Frag) : R2 := fun x y H Q => ∃ a b xs, x = .ref a ∧ y = .ref b ∧ ((SqL K H a xs ∧ SqL K H b []) ∨ (SqT K H a xs ∧ SqT K H b [])) ∧ Q (.bl (!decide (xs = []))) H
theorem nil_of {xs : List V} {its : List Value} (r : Vals xs its) : decide (xs = []) = (its.length == 0) := by
  cases r <;> rfl
theorem nil_its {its : List Value} (r : Vals [] its) : its = [] := by
  cases r
  rfl
theorem op_eqE (hu : X.A.units + 1 < cLine) : OpR X (compareOp .Eq) (rEqE X.K) := by
  intro pins s σ H x y v u Q I rx ry h
  have hu1 : X.A.units < cLine := Nat.lt_of_succ_lt hu
  obtain ⟨a, b, xs, rfl, rfl, hab, q⟩ := h
  cases rx
  cases ry
  rcases hab with ⟨ha, hb⟩ | ⟨ha, hb⟩
  · obtain ⟨its, ra, pa, _⟩ := I.list ha
    obtain ⟨its2, rb, pb, _⟩ := I.list hb
    rw [nil_of ra] at q
    rw [nil_its rb] at pb
    cases its with
    | nil => exact SeqAt.eq_listAt (e := fun _ => true) pa.isList pb.isList rfl hu1 (fun j h1 _ => absurd h1 (Nat.not_lt_zero _)) ⟨.bl true, H, I, rfl, q⟩
    | cons z r => exact SeqAt.eq_list_lengthsAt pa.isList pb.isList (by simp) hu1 ⟨.bl false, H, I, rfl, q⟩
  · obtain ⟨its, ra, pa, _⟩ := I.tuple ha
    obtain ⟨its2, rb, pb, _⟩ := I.tuple hb
    rw [nil_of ra] at q
    rw [nil_its rb] at pb
    refine SeqAt.eq_tupleAt (e := fun _ => true) pa pb hu1 (fun j _ h2 => absurd h2 (Nat.not_lt_zero _)) ⟨.bl (its.length == 0), H, I, ?_, q⟩
    cases its <;> rfl
theorem op_neE (hu : X.A.units + 1 < cLine) : OpR X (compareOp .NotEq) (rNeE X.K) := by
  intro pins s σ H x y v u Q I rx ry h
  have hu1 : X.A.units < cLine := Nat.lt_of_succ_lt hu
  obtain ⟨a, b, xs, rfl, rfl, hab, q⟩ := h
  cases rx
  cases ry
  rcases hab with ⟨ha, hb⟩ | ⟨ha, hb⟩
  · obtain ⟨its, ra, pa, _⟩ := I.list ha
    obtain ⟨its2, rb, pb, _⟩ := I.list hb
    rw [nil_of ra] at q
    rw [nil_its rb] at pb
    cases its with
    | nil => exact SeqAt.RcNeAt.lists (e := fun _ => true) pa.isList pb.isList rfl hu1 (fun j h1 _ => absurd h1 (Nat.not_lt_zero _)) _ _ _ _ ⟨.bl false, H, I, rfl, q⟩
    | cons z r => exact SeqAt.RcNeAt.lists_lengths pa.isList pb.isList (by simp) hu1 _ _ _ _ ⟨.bl true, H, I, rfl, q⟩
  · obtain ⟨its, ra, pa, _⟩ := I.tuple ha
    obtain ⟨its2, rb, pb, _⟩ := I.tuple hb
    rw [nil_of ra] at q
    rw [nil_its rb] at pb
    refine SeqAt.RcNeAt.tuples (e := fun _ => true) pa pb hu1 (fun j _ h2 => absurd h2 (Nat.not_lt_zero _)) _ _ _ _ ⟨.bl (!(its.length == 0)), H, I, ?_, q⟩
    cases its <;> rfl
/-! ### sorted of a tuple of texts -/
def rSortedTS (K : PySem.W.Frag) : List V → Hp → VK → Prop := fun vs H Q => ∃ (a : Addr) (xs : List Str), vs = [V.ref a] ∧ SqT K H a (xs.map V.str) ∧ xs.length < 64 ∧
  ∀ (ys : List Str) (p : Addr), ys.Perm xs → sortedS ys = true → H p = none → Q (.ref p) (upd H p (.lst (ys.map V.str)))
theorem cr_sortedTS : CallR X (.builtin "sorted") (rSortedTS X.K) := by
  intro pins s σ H vs us Q I r h
  obtain ⟨a, xs, rfl, hs, h64, q⟩ := h
  obtain ⟨its, rv, hl, hz⟩ := I.tuple hs
  rw [Vals.ref1 r]
  have hn := rv.length
  rw [List.length_map] at hn
  have hn64 : its.length < 64 := by omega
  obtain ⟨o, ho, hc, n, hd⟩ := hl
  refine Calls.call_function_entry kind_sorted plain_sorted entry_sorted (args_sorted1 _) ?_
  unfold Builtin.«sorted»
  refine wpAny_bind (m := checkCount "sorted" 1 1 _) (wpAny_pure ?_)
  refine wpAny_bind (wpAny_collect_seq a (.inr rfl) ho hc hd (fun h1 k1 => ?_) (by rw [sizeLine_eq]; simp; omega))
  refine wpAny_bind (wpAny_newList ?_)
  show wpAny _ _ _ _ _ { s with heap := h1.push (seqObj "list" its.toArray 0) }
  have g1 : (h1.push (seqObj "list" its.toArray 0)).get? h1.objs.size = some (seqObj "list" its.toArray 0) := Heap.get?_push_size _ rfl
  refine wpAny_bind (wpAny_holding (wpAny_call_entry slot_list_sort ⟨_, g1, rfl⟩ entry_list_sort (list_sort_treeK strKind_oneLt g1 rv.strs.keysOf (fun v1 v2 rest e => keyKind_strs (by rw [← e]; exact rv.strs)) hn64 fun st' p1 p2 => ⟨_, rfl, ?_⟩) (args_list_sort _)))
  obtain ⟨ys, y1, y2, y3⟩ := sorted_out_str rv.strs p1 p2
  refine wpAny_pure ⟨_, rfl, ?_⟩
  obtain ⟨ep, he'⟩ := sortedHeap_at (vs := its) (out := (arrOf st').map (·.2)) g1
  have hlen : (ys.map V.str).length ≤ sizeLine := by
    rw [List.length_map, y2.length_eq]
    exact small64 h64
  have I1 : Inv X pins σ H { s with heap := h1 } := I.kept (t' := s.toks) k1
  have old : ∀ b ob, h1.get? b = some ob → (sortedHeap (h1.push (seqObj "list" its.toArray 0)) h1.objs.size its ((arrOf st').map (·.2))).get? b = some ob := fun b ob e1 => by
    have lt := Heap.lt_size e1
    rw [sortedHeap_old (Nat.ne_of_lt lt) (by rw [size_push']; exact Nat.lt_succ_of_lt lt)]
    exact Heap.get?_push_of_some _ e1
  exact ⟨.ref h1.objs.size, upd H h1.objs.size (.lst (ys.map V.str)), I1.laid (t' := s.toks) old (Nat.le_refl _) ⟨hlen, _, ep, vals_of_strs y1, he'⟩, rfl, q ys _ y2 y3 (I1.hok.fresh (Nat.le_refl _))⟩
/-! ### enumerate(a tuple) -/
/-- the tuple at a, each item in a new pair with its place -/
def IteT (K : PySem.W.Frag) (a : Addr) : It :=
  ⟨fun i H => ∃ (xs : List V) (x : V), SqT K H a xs ∧ xs[i]? = some x, fun i H v H' => ∃ T x, v = .ref T ∧ H T = none ∧ H' = upd H T (.tup [.int (i : Nat), x]) ∧ ∀ xs, SqT K H a xs → xs[i]? = some x, fun i H => ∃ xs : List V, SqT K H a xs ∧ xs.length = i⟩
theorem enum_tuple {P : Program} {w : World} {A : Around} {E : Value → Shared → Prop} {s : Shared} {v : Value} {o : Obj} {G : Heap → Prop} {Q : Value → Shared → Prop} (B : Begins v o G) (h1 : G s.heap)
    (h : ∀ h', IsEnum h' (s.heap.objs.size + 1) s.heap.objs.size 0 .none → h'.get? s.heap.objs.size = some o → (∀ b u, s.heap.get? b = some u → h'.get? b = some u) → Q (.ref (s.heap.objs.size + 1)) { s with heap := h' }) :
    wpAny (model P w) A (call (.type "enumerate") [v]) Q E s := by
  have M : Meets (Builtin.«enumerate.__new__» ⟨[.type "enumerate", v], []⟩) (fun _ R s => G s.heap ∧
      R (.ok (.ret (.ref (s.heap.push o).objs.size))) { s with heap := (s.heap.push o).push { cls := .type "enumerate", data := .fields #[.none, .bool false, .ref s.heap.objs.size, rawInt 0, .none, .none] } }) :=
    .of_wp fun prog w A R s h => by
      obtain ⟨hp, g, d, tk, os⟩ := s
      obtain ⟨h1, h⟩ := h
      have hsub := sub_enumerate
      have q1 : ∀ {A' : Around} {E : Value → Shared → Prop} {Q : Value → Shared → Prop}, Q (.ref hp.objs.size) ⟨hp.push o, g, d, tk, os⟩ → wpAny (model prog w) A' (pyIter v) Q E ⟨hp, g, d, tk, os⟩ :=
        fun q => B.iter prog w _ _ ⟨hp, g, d, tk, os⟩ _ h1 q
      wp_walk using q1
      refine wpAny_stack_any fun st => wpAny_pure ?_
      split
      · rename_i c _ _ _ _ _
        cases (c == Value.type "enumerate") <;> (wp_walk using q1; exact ⟨_, rfl, h⟩)
      · wp_walk using q1
        exact ⟨_, rfl, h⟩
  refine callType_new F.called_enumerate (by decide) (F.typeCall_enumerate_1 _) (F.newCall_enumerate_1 _) (fun obj => F.args_object_init_2 obj _) F.entry_enumerate_new M ⟨h1, ?_⟩
  have hz : (s.heap.push o).objs.size = s.heap.objs.size + 1 := Heap.size_push ..
  show _ ∧ _
  rw [hz]
  have he : IsEnum ((s.heap.push o).push { cls := .type "enumerate", data := .fields #[.none, .bool false, .ref s.heap.objs.size, rawInt 0, .none, .none] }) (s.heap.objs.size + 1) s.heap.objs.size 0 .none := by
    have z := Heap.get?_push_size (s.heap.push o) (o := { cls := .type "enumerate", data := .fields #[.none, .bool false, .ref s.heap.objs.size, rawInt 0, .none, .none] }) rfl
    rw [hz] at z
    exact z
  exact ⟨⟨_, he, rfl⟩, h _ he (Heap.get?_push_of_some _ (Heap.get?_push_size _ B.free)) fun b u x => Heap.get?_push_of_some _ (Heap.get?_push_of_some _ x)⟩
theorem turn_enumT {P : Program} {w : World} {K : PySem.W.Frag} {elts : List Expr} {kk : Nat} {tpos : Pos} (a e it : Addr) (hai : a ≠ it) :
    Turn P w K (.Tuple elts kk tpos) (IteT K a) [e, it] e (fun i h => (∃ old, IsEnum h e it ((i : Nat) : Int) old) ∧ h.IsTupleIter it a i ∧ e ≠ it ∧ a ≠ e) where
  mem := by simp
  obj := fun i h st b hb => by
    obtain ⟨⟨old, he⟩, ⟨o, ho, hc, hd⟩, _⟩ := st
    have z : b = e ∨ b = it := by simpa using hb
    rcases z with rfl | rfl
    · exact ⟨_, he, fun v q => nomatch q⟩
    · exact ⟨o, ho, fun v q => by rw [hd] at q; cases q⟩
  keep := fun i h h' st k => by
    obtain ⟨⟨old, he⟩, hi, hne⟩ := st
    exact ⟨⟨old, k e (by simp) _ he⟩, hi.at fun o q => k it (by simp) o q, hne⟩
  item := by
    intro X hP hw hK hc i pins s σ H E I hf st hg
    subst hP hw hK
    obtain ⟨⟨old, he⟩, hit, hne, hae⟩ := st
    obtain ⟨xs, x, hq, hx⟩ := hg
    obtain ⟨its, rv, p, hz⟩ := I.tuple hq
    obtain ⟨u, hu, ru⟩ := rv.get hx
    have hel : e < s.heap.objs.size := Heap.lt_size he
    have hil : it < s.heap.objs.size := by
      obtain ⟨_, q, _⟩ := hit
      exact Heap.lt_size q
    have hi : i < its.toArray.size := by
      have z := (List.getElem?_eq_some_iff.mp hu).1
      simpa using z
    refine wpAny_pyNext_enum_itemD (Draws.tuple (show X.A.in1.handled = none from I.ok.hd hc) it a hai its.toArray) he ⟨hit, p⟩ hi hne (by simp [hne, Ne.symm hae]) fun y h' tk hy ho hst hT hsz hk => ?_
    have ey : y = u := by
      have z : its[i]? = some y := by simpa using hy
      rw [hu] at z
      exact (Option.some.inj z).symm
    subst ey
    refine ⟨_, rfl, wpAny_letOwnedTupleGo_enum (s := { s with heap := h', toks := tk + 1 }) ho fun h'' he' sb => ?_⟩
    have hT2 : h''.get? s.heap.objs.size = some { cls := .type "tuple", data := .seq #[.int i tk, y] } := (sb.2 _ (Nat.ne_of_gt hel)).trans hT
    have new : ObjOk X.prog X.w (upd H s.heap.objs.size (.tup [.int (i : Nat), x])) h'' s.heap.objs.size (.tup [.int (i : Nat), x]) :=
      ⟨by show 2 ≤ sizeLine; decide, [.int i tk, y], .cons ⟨_, rfl⟩ (.cons ru .nil), ⟨_, hT2, rfl, _, rfl⟩⟩
    have kk2 : ∀ b ob, b ∉ [e, it] → s.heap.get? b = some ob → h''.get? b = some ob := fun b ob hb q => by
      have nb : b ≠ e ∧ b ≠ it := by simpa using hb
      exact (sb.2 b nb.1).trans (hk b ob nb.1 nb.2 q)
    have I1 : Inv X pins σ (upd H s.heap.objs.size (.tup [.int (i : Nat), x])) { s with heap := h'', toks := tk + 1 } := I.turnedNew (t' := tk + 1) (ch := [e, it]) kk2 hf (Nat.le_refl _) new
    refine ⟨.ref s.heap.objs.size, _, I1, rfl, ⟨_, x, rfl, I.hok.fresh (Nat.le_refl _), rfl, fun ys hy => by rw [I.tuple_inj hy hq]; exact hx⟩, ⟨⟨y, ?_⟩, hst.1.at fun o q => (sb.2 it (Ne.symm hne)).trans q, hne, hae⟩, fun b hb => ?_⟩
    · have e1 : ((i + 1 : Nat) : Int) = (i : Int) + 1 := by omega
      rw [e1]
      exact he'
    · have z : b = e ∨ b = it := by simpa using hb
      have hb' : b < s.heap.objs.size := by
        rcases z with rfl | rfl
        · exact hel
        · exact hil
      rw [upd_ne (Nat.ne_of_lt hb')]
      exact (hf b hb).1
  done := by
    intro X hP hw hK hc i pins s σ H E I hf st hg
    subst hP hw hK
    obtain ⟨⟨old, he⟩, hit, hne, hae⟩ := st
    obtain ⟨xs, hq, hx⟩ := hg
    obtain ⟨its, rv, p, hz⟩ := I.tuple hq
    obtain ⟨f0, f1, f2, f3, f4, f5⟩ := hf it (by simp)
    have hl := rv.length
    have en : i = its.toArray.size := by
      rw [← hx, hl]
      simp
    subst en
    exact wpAny_pyNext_enum_endD (Draws.tuple (show X.A.in1.handled = none from I.ok.hd hc) it a hai its.toArray) he ⟨hit, p⟩ fun h' eb => ⟨rfl, I.turned (t' := s.toks) (fun b o hb q => eb b o hb q) f0 f1 f3 f4 f5⟩
  self := fun A i s Q E st h => let ⟨⟨_, he⟩, _⟩ := st; wpAny_pyIter_enum he h
def iEnumT (K : PySem.W.Frag) (ta : TA) : TI := fun σ H R => ta σ H fun vs H1 => ∃ a xs, vs = [.ref a] ∧ SqT K H1 a xs ∧ R (IteT K a) H1
theorem pi_enumT {e : Expr} {ta : TA} {p pos tpos : Pos} {elts : List Expr} {kk : Nat} (hg : Gl X "enumerate") (hm : X.mg "enumerate" = none) (ha : PA X [e] ta) (hs : starEach [e] X.env = [(false, eval e X.env)] := by rfl) :
    PI X (.Tuple elts kk tpos) (.Call (.Name "enumerate" p) [e] [] pos) (iEnumT X.K ta) := by
  refine ⟨fun pins s σ H R I h => ?_⟩
  refine Call_ (ld_blt I hg hm boot_enumerate (PyProof.Rows.callWith_type1 (thn (ha.run pos pins s σ H _ I h) fun us s1 ⟨vs, H1, I1, r1, q1⟩ => ?_) hs rfl))
  obtain ⟨a, xs, ex, hq, q⟩ := q1
  subst ex
  cases r1 with
  | cons r rr =>
    cases rr
    cases r
    obtain ⟨its, rv, p', hz⟩ := I1.tuple hq
    have hal : a < s1.heap.objs.size := by
      obtain ⟨_, z, _⟩ := p'
      exact Heap.lt_size z
    refine enum_tuple (begins_tuple a its.toArray) p' fun h' he hit hk => wpAny_pyIter_enum he ?_
    have I2 : Inv X pins σ H1 { s1 with heap := h' } := I1.kept (t' := s1.toks) hk
    refine ⟨s1.heap.objs.size + 1, [s1.heap.objs.size + 1, s1.heap.objs.size], _, _, H1, rfl, I2, turn_enumT a (s1.heap.objs.size + 1) s1.heap.objs.size (Nat.ne_of_lt hal),
      ⟨⟨.none, he⟩, ⟨_, hit, rfl, rfl⟩, Nat.succ_ne_self _, Nat.ne_of_lt (Nat.lt_succ_of_lt hal)⟩, fun b hb => ?_, q⟩
    have z : b = s1.heap.objs.size + 1 ∨ b = s1.heap.objs.size := by simpa using hb
    have hle : s1.heap.objs.size ≤ b := by
      rcases z with rfl | rfl
      · exact Nat.le_succ _
      · exact Nat.le_refl _
    exact I1.fpOk hle (I1.hok.fresh hle)
end
/-! ### the loops over them, by an invariant -/
theorem for_enumT {K : PySem.W.Frag} {a : Addr} {xs : List V} {g : TG} {tb : TS} {D : Ends} {σ : L2.St} {H : Hp} (Pv : Nat → L2.St → Hp → Prop) (h0 : Pv 0 σ H) (hl : ∀ i σ H, i ≤ xs.length → Pv i σ H → SqT K H a xs)
    (hs : ∀ (i : Nat) (x : V) (T : Addr) (σ : L2.St) (H : Hp), xs[i]? = some x → Pv i σ H → H T = none → g (.ref T) σ (upd H T (.tup [.int (i : Nat), x])) fun σ2 H2 => tb { D with nx := Pv (i + 1), ct := Pv (i + 1), bk := D.nx } σ2 H2) (hd : ∀ σ H, Pv xs.length σ H → D.nx σ H) :
    ∃ W : Nat → Nat → L2.St → Hp → Prop, (∃ m, W 0 m σ H) ∧ ∀ i m σ H, W i m σ H →
      ((IteT K a).stop i H ∧ D.nx σ H) ∨ ((IteT K a).go i H ∧ ∃ N : L2.St → Hp → Prop, (∀ σ' H', N σ' H' → ∃ m', m' < m ∧ W (i + 1) m' σ' H') ∧ ∀ v H', (IteT K a).yld i H v H' → g v σ H' fun σ2 H2 => tb { D with nx := N, ct := N, bk := D.nx } σ2 H2) := by
  refine ⟨fun i m σ H => m = xs.length - i ∧ i ≤ xs.length ∧ Pv i σ H, ⟨xs.length, rfl, Nat.zero_le _, h0⟩, ?_⟩
  rintro i m σ H ⟨rfl, hi, p⟩
  have q := hl i σ H hi p
  by_cases hlt : i < xs.length
  · have hx : xs[i]? = some xs[i] := List.getElem?_eq_getElem hlt
    refine .inr ⟨⟨xs, _, q, hx⟩, Pv (i + 1), fun σ' H' p' => ⟨xs.length - (i + 1), by omega, rfl, hlt, p'⟩, fun v H' y => ?_⟩
    obtain ⟨T, x', rfl, hT, rfl, f1⟩ := y
    exact hs i x' T σ H (f1 xs q) p hT
  · have e : i = xs.length := by omega
    subst e
    exact .inl ⟨⟨xs, q, rfl⟩, hd σ H p⟩
theorem for_enumL {K : PySem.W.Frag} {a : Addr} {xs : List V} {g : TG} {tb : TS} {D : Ends} {σ : L2.St} {H : Hp} (Pv : Nat → L2.St → Hp → Prop) (h0 : Pv 0 σ H) (hl : ∀ i σ H, i ≤ xs.length → Pv i σ H → SqL K H a xs)
    (hs : ∀ (i : Nat) (x : V) (T : Addr) (σ : L2.St) (H : Hp), xs[i]? = some x → Pv i σ H → H T = none → g (.ref T) σ (upd H T (.tup [.int (i : Nat), x])) fun σ2 H2 => tb { D with nx := Pv (i + 1), ct := Pv (i + 1), bk := D.nx } σ2 H2) (hd : ∀ σ H, Pv xs.length σ H → D.nx σ H) :
    ∃ W : Nat → Nat → L2.St → Hp → Prop, (∃ m, W 0 m σ H) ∧ ∀ i m σ H, W i m σ H →
      ((Ite K a).stop i H ∧ D.nx σ H) ∨ ((Ite K a).go i H ∧ ∃ N : L2.St → Hp → Prop, (∀ σ' H', N σ' H' → ∃ m', m' < m ∧ W (i + 1) m' σ' H') ∧ ∀ v H', (Ite K a).yld i H v H' → g v σ H' fun σ2 H2 => tb { D with nx := N, ct := N, bk := D.nx } σ2 H2) := by
  refine ⟨fun i m σ H => m = xs.length - i ∧ i ≤ xs.length ∧ Pv i σ H, ⟨xs.length, rfl, Nat.zero_le _, h0⟩, ?_⟩
  rintro i m σ H ⟨rfl, hi, p⟩
  have q := hl i σ H hi p
  by_cases hlt : i < xs.length
  · have hx : xs[i]? = some xs[i] := List.getElem?_eq_getElem hlt
    refine .inr ⟨⟨xs, _, q, hx⟩, Pv (i + 1), fun σ' H' p' => ⟨xs.length - (i + 1), by omega, rfl, hlt, p'⟩, fun v H' y => ?_⟩
    obtain ⟨T, x', rfl, hT, rfl, f1⟩ := y
    exact hs i x' T σ H (f1 xs q) p hT
  · have e : i = xs.length := by omega
    subst e
    exact .inl ⟨⟨xs, q, Nat.le_refl _⟩, hd σ H p⟩
/-- a comprehension over enumerate of a list -/
theorem lc_enumL {K : PySem.W.Frag} {a : Addr} {xs : List V} {g : TG} {tt : TT} {te : TE} {vs : List Nat} {σ : L2.St} {H1 : Hp} {D : Addr} {Qd : Hp → Prop} (Pv : Nat → Hp → Prop) (h0 : Pv 0 (upd H1 D (.lst []))) (hl : ∀ i H, i ≤ xs.length → Pv i H → SqL K H a xs)
    (hs : ∀ (i : Nat) (x : V) (T : Addr) (H : Hp), xs[i]? = some x → Pv i H → H T = none → g (.ref T) (wipe σ vs) (upd H T (.tup [.int (i : Nat), x])) fun σ2 H2 => wipe σ2 vs = wipe σ vs ∧ tt σ2 H2 fun b H3 =>
      if b = true then te σ2 H3 fun y H4 => ∃ acc, H4 D = some (.lst acc) ∧ acc.length < sizeLine ∧ Pv (i + 1) (upd H4 D (.lst (acc ++ [y]))) else Pv (i + 1) H3) (hd : ∀ H, Pv xs.length H → Qd H) :
    ∃ W : Nat → Nat → Hp → Prop, (∃ m, W 0 m (upd H1 D (.lst []))) ∧ ∀ i m H, W i m H →
      ((Ite K a).stop i H ∧ Qd H) ∨ ((Ite K a).go i H ∧ ∃ Nx : Hp → Prop, (∀ H', Nx H' → ∃ m', m' < m ∧ W (i + 1) m' H') ∧ ∀ x H', (Ite K a).yld i H x H' → g x (wipe σ vs) H' fun σ2 H2 => wipe σ2 vs = wipe σ vs ∧ tt σ2 H2 fun b H3 =>
        if b = true then te σ2 H3 fun y H4 => ∃ acc, H4 D = some (.lst acc) ∧ acc.length < sizeLine ∧ Nx (upd H4 D (.lst (acc ++ [y]))) else Nx H3) := by
  refine ⟨fun i m H => m = xs.length - i ∧ i ≤ xs.length ∧ Pv i H, ⟨xs.length, rfl, Nat.zero_le _, h0⟩, ?_⟩
  rintro i m H ⟨rfl, hi, p⟩
  have q := hl i H hi p
  by_cases hlt : i < xs.length
  · have hx : xs[i]? = some xs[i] := List.getElem?_eq_getElem hlt
    refine .inr ⟨⟨xs, _, q, hx⟩, Pv (i + 1), fun H' p' => ⟨xs.length - (i + 1), by omega, rfl, hlt, p'⟩, fun v H' y => ?_⟩
    obtain ⟨T, x', rfl, hT, rfl, f1⟩ := y
    exact hs i x' T H (f1 xs q) p hT
  · have e : i = xs.length := by omega
    subst e
    exact .inl ⟨⟨xs, q, Nat.le_refl _⟩, hd H p⟩
/-- a comprehension over the signs of a text -/
theorem lc_str {x : Str} {g : TG} {tt : TT} {te : TE} {vs : List Nat} {σ : L2.St} {H1 : Hp} {D : Addr} {Qd : Hp → Prop} (Pv : Nat → Hp → Prop) (h0 : Pv 0 (upd H1 D (.lst [])))
    (hs : ∀ (i c : Nat) (H : Hp), x.cps[i]? = some c → Pv i H → g (.str ⟨#[c]⟩) (wipe σ vs) H fun σ2 H2 => wipe σ2 vs = wipe σ vs ∧ tt σ2 H2 fun b H3 =>
      if b = true then te σ2 H3 fun y H4 => ∃ acc, H4 D = some (.lst acc) ∧ acc.length < sizeLine ∧ Pv (i + 1) (upd H4 D (.lst (acc ++ [y]))) else Pv (i + 1) H3) (hd : ∀ H, Pv x.cps.size H → Qd H) :
    ∃ W : Nat → Nat → Hp → Prop, (∃ m, W 0 m (upd H1 D (.lst []))) ∧ ∀ i m H, W i m H →
      ((Its x).stop i H ∧ Qd H) ∨ ((Its x).go i H ∧ ∃ Nx : Hp → Prop, (∀ H', Nx H' → ∃ m', m' < m ∧ W (i + 1) m' H') ∧ ∀ y H', (Its x).yld i H y H' → g y (wipe σ vs) H' fun σ2 H2 => wipe σ2 vs = wipe σ vs ∧ tt σ2 H2 fun b H3 =>
        if b = true then te σ2 H3 fun y H4 => ∃ acc, H4 D = some (.lst acc) ∧ acc.length < sizeLine ∧ Nx (upd H4 D (.lst (acc ++ [y]))) else Nx H3) := by
  refine ⟨fun i m H => m = x.cps.size - i ∧ i ≤ x.cps.size ∧ Pv i H, ⟨x.cps.size, rfl, Nat.zero_le _, h0⟩, ?_⟩
  rintro i m H ⟨rfl, hi, p⟩
  by_cases hlt : i < x.cps.size
  · refine .inr ⟨hlt, Pv (i + 1), fun H' p' => ⟨x.cps.size - (i + 1), by omega, rfl, hlt, p'⟩, fun v H' y => ?_⟩
    obtain ⟨rfl, c, hc, rfl⟩ := y
    exact hs i c _ hc p
  · have e : i = x.cps.size := by omega
    subst e
    exact .inl ⟨Nat.le_refl _, hd H p⟩
end K56
set_option Elab.async false
set_option linter.all false
set_option maxRecDepth 100000
set_option maxHeartbeats 4000000
/-! K56, part R2: short rules for calls, fields, properties; what a def keeps, packed. -/
namespace K56
open PySem PySem.W PyProof.Rows L2 Evl
/-- the def at f keeps sp, told with how its arguments bind -/
structure OkF (P : Program) (w : World) (K : Frag) (mg : Str → Option Value) (base : Heap) (CX : CXT) (k : Nat) (f : Addr) (ps : List Str) (sp : Sp) : Prop where
  ex : ∃ fd, FnOk P w K mg base CX k f fd ps sp ∧ Binds K fd ps []
  kp : keepIn K (.ref f) = true
def tK (sp : Sp) (E : XK) (t : TA) : TE := fun σ H Q => t σ H fun vs H1 => sp vs H1 Q E
def tM (C : Addr) (m : Str) (sp : Sp) (E : XK) (ta : TE) (t : TA) : TE := fun σ H Q => ta σ H fun x H1 => ∃ a dx fs, x = .ref a ∧ H1 a = some (.ins C dx fs) ∧ fs.lookup m = none ∧ t σ H1 fun vs H2 => sp (x :: vs) H2 Q E
def tMk (C : Addr) (sp : Sp) (E : XK) (t : TA) : TE := fun σ H Q => t σ H fun vs H1 => ∀ x dx, H1 x = none → H1 dx = none → dx ≠ x → sp (.ref x :: vs) (upd (upd H1 dx (.own x)) x (.ins C dx [])) (fun v H2 => v = .non ∧ Q (.ref x) H2) E
/-- a field, read off the object or by a property that hands it back -/
def tPf (C : Addr) (f : Str) (ta : TE) : TE := fun σ H Q => ta σ H fun x H1 => ∃ a dx fs v, x = .ref a ∧ H1 a = some (.ins C dx fs) ∧ fs.lookup f = some v ∧ Q v H1
theorem tK_eq (sp : Sp) (E : XK) (t : TA) : tCall sp [] E t = tK sp E t := by
  unfold tCall tK
  simp only [List.append_nil]
theorem tM_eq (C : Addr) (m : Str) (sp : Sp) (E : XK) (ta : TE) (t : TA) : tMeth C m sp [] E ta t = tM C m sp E ta t := by
  unfold tMeth tM
  simp only [List.append_nil]
theorem tMk_eq (C : Addr) (sp : Sp) (E : XK) (t : TA) : tMake C sp [] E t = tMk C sp E t := by
  unfold tMake tMk
  simp only [List.append_nil]
section
variable {X : Cx} {CX : CXT} {k k' : Nat} {f C p g : Addr} {ps : List Str} {sp : Sp} {E : XK} {W : WX} {x m fl f2 : Str} {px pos apos : Pos} {e o : Expr} {es : List Expr} {t : TA} {ta te : TE}
theorem pe_c (G : OkF X.prog X.w X.K X.mg X.base CX k f ps sp) (hr : Room k' X.A) (hk : k ≤ k') (hm : X.mg x = some (.ref f)) (hx : Passes CX X E) (ha : PA X (e :: es) t) (hg : Gl X x := by rfl)
    (hdb : (x == ("__debug__" : Str)) = false := by decide) (he : starEach (e :: es) X.env = (false, eval e X.env) :: starEach es X.env := by rfl) (hpl : (backTo pos (starEach es X.env)).any (·.1) = false := by rfl) :
    PE X (.Call (.Name x px) (e :: es) [] pos) (tK sp E t) := by
  obtain ⟨fd, F, b⟩ := G.ex
  rw [← tK_eq]
  exact pe_call F (hr.mono hk) hg hm G.kp b .nil hx ha hdb he hpl
theorem pe_cS {E : L2.St → XK} (G : OkF X.prog X.w X.K X.mg X.base CX k f ps sp) (hr : Room k' X.A) (hk : k ≤ k') (hm : X.mg x = some (.ref f)) (hx : ∀ σ, PassesAt CX X σ (E σ)) (ha : PA X (e :: es) t) (hg : Gl X x := by rfl)
    (hdb : (x == ("__debug__" : Str)) = false := by decide) (he : starEach (e :: es) X.env = (false, eval e X.env) :: starEach es X.env := by rfl) (hpl : (backTo pos (starEach es X.env)).any (·.1) = false := by rfl) :
    PE X (.Call (.Name x px) (e :: es) [] pos) (tCallS sp E t) := by
  obtain ⟨fd, F, b⟩ := G.ex
  exact pe_callS F (hr.mono hk) hg hm G.kp b hx ha hdb he hpl
theorem pe_m {pl : Sem Bool} (ho : PE X o ta) (c : Cls X.K C) (hm : Meth X.K C m f) (G : OkF X.prog X.w X.K X.mg X.base CX k f ps sp) (hr : Room k' X.A) (hk : k ≤ k') (hx : Passes CX X E) (ha : PA X (e :: es) t)
    (hst : starEach (e :: es) X.env = (false, eval e X.env) :: starEach es X.env := by rfl) (hpl : (backTo pos (starEach es X.env)).any (·.1) = false := by rfl)
    (ht : eval (.Call (.Attribute o m apos) (e :: es) [] pos) X.env = (do
      let ov ← eval o X.env
      standAt apos.atName
      let (f, first) ← holding [ov] (getMethod ov m pl)
      callWith pos f first (backTo pos (starEach (e :: es) X.env)) (backToKw pos (keywordEach [] X.env))) := by rfl) : PE X (.Call (.Attribute o m apos) (e :: es) [] pos) (tM C m sp E ta t) := by
  obtain ⟨fd, F, b⟩ := G.ex
  rw [← tM_eq]
  exact pe_meth ho c hm F (hr.mono hk) b .nil hx ha hst hpl ht
theorem pe_m0 {pl : Sem Bool} (ho : PE X o ta) (c : Cls X.K C) (hm : Meth X.K C m f) (G : OkF X.prog X.w X.K X.mg X.base CX k f ps sp) (hr : Room k' X.A) (hk : k ≤ k') (hx : Passes CX X E)
    (ht : eval (.Call (.Attribute o m apos) [] [] pos) X.env = (do
      let ov ← eval o X.env
      standAt apos.atName
      let (f, first) ← holding [ov] (getMethod ov m pl)
      callWith pos f first (backTo pos (starEach [] X.env)) (backToKw pos (keywordEach [] X.env))) := by rfl) : PE X (.Call (.Attribute o m apos) [] [] pos) (tM C m sp E ta tNil) := by
  obtain ⟨fd, F, b⟩ := G.ex
  rw [← tM_eq]
  exact pe_meth0 ho c hm F (hr.mono hk) b .nil hx ht
theorem pe_mk (M : Mk X.K C f) (G : OkF X.prog X.w X.K X.mg X.base CX k f ps sp) (hr : Room k' X.A) (hk : k + 1 ≤ k') (hm : X.mg x = some (.ref C)) (hx : Passes CX X E) (ha : PA X (e :: es) t) (hg : Gl X x := by rfl)
    (hdb : (x == ("__debug__" : Str)) = false := by decide) (he : starEach (e :: es) X.env = (false, eval e X.env) :: starEach es X.env := by rfl) (hpl : (backTo pos (starEach es X.env)).any (·.1) = false := by rfl) :
    PE X (.Call (.Name x px) (e :: es) [] pos) (tMk C sp E t) := by
  obtain ⟨fd, F, b⟩ := G.ex
  rw [← tMk_eq]
  exact pe_make M F (hr.mono hk) hg hm b .nil hx ha hdb he hpl
theorem pe_f (c : Cls X.K C) (n : NoAttr X.K C fl) (ho : PE X o ta) (hb : attributeBase o fl X.env (eval o X.env) = eval o X.env := by rfl) : PE X (.Attribute o fl pos) (tPf C fl ta) := by
  refine ⟨fun pins s σ H Q I h => ?_⟩
  refine attr_of hb (thn (ho.run pins s σ H _ I h) fun u s1 ⟨x, H1, I1, rx, a, dx, fs, v, ex, ea, l, q⟩ => ?_)
  subst ex
  have eu : u = Value.ref a := rx
  rw [eu]
  exact getattr_ok I1 ea c n l fun u' s2 I2 ru => ⟨v, H1, I2, ru, q⟩
/-- a property that hands back the field f2 -/
theorem pe_p (c : Cls X.K C) (hp : PropOf X.K C fl p g) (G : OkF X.prog X.w X.K X.mg X.base CX k g ["self"] (getSp C f2)) (hr : Room k' X.A) (hk : k + 1 ≤ k') (hx : Passes CX X.nox E) (ho : PE X o ta) (hb : attributeBase o fl X.env (eval o X.env) = eval o X.env := by rfl) :
    PE X (.Attribute o fl pos) (tPf C f2 ta) := by
  obtain ⟨fd, F, b⟩ := G.ex
  refine ⟨fun pins s σ H Q I h => ?_⟩
  refine attr_of hb (thn (ho.run pins s σ H _ I h) fun u s1 ⟨x, H1, I1, rx, a, dx, fs, v, ex, ea, l, q⟩ => ?_)
  subst ex
  have eu : u = Value.ref a := rx
  rw [eu]
  exact getprop_ok I1 ea c hp F (hr.mono hk) b .nil hx ⟨a, dx, fs, v, rfl, ea, l, q⟩
/-- any property -/
def tPr (C : Addr) (sp : Sp) (E : XK) (ta : TE) : TE := fun σ H Q => ta σ H fun x H1 => ∃ a dx fs, x = .ref a ∧ H1 a = some (.ins C dx fs) ∧ sp [.ref a] H1 Q E
theorem pe_pr (c : Cls X.K C) (hp : PropOf X.K C fl p g) (G : OkF X.prog X.w X.K X.mg X.base CX k g ["self"] sp) (hr : Room k' X.A) (hk : k + 1 ≤ k') (hx : Passes CX X.nox E) (ho : PE X o ta) (hb : attributeBase o fl X.env (eval o X.env) = eval o X.env := by rfl) :
    PE X (.Attribute o fl pos) (tPr C sp E ta) := by
  obtain ⟨fd, F, b⟩ := G.ex
  refine ⟨fun pins s σ H Q I h => ?_⟩
  refine attr_of hb (thn (ho.run pins s σ H _ I h) fun u s1 ⟨x, H1, I1, rx, a, dx, fs, ex, ea, q⟩ => ?_)
  subst ex
  have eu : u = Value.ref a := rx
  rw [eu]
  exact getprop_ok I1 ea c hp F (hr.mono hk) b .nil hx q
end
section
variable {P : Program} {w : World} {K : Frag} {mg : Str → Option Value} {base : Heap}
theorem ok_getter {CX : CXT} {nm q f : Str} {st : Stmt} {g C : Addr} {p1 p2 p3 : Pos} (hF : ∃ fd, Fun K nm q st g fd) (S : FnScope ["self"] ["self"] (defScope st)) (hb : defBody st = [.Return (some (.Attribute (.Name "self" p1) f p2)) p3])
    (hbd : ∀ (kV doc pm : Value) (an : Option Addr) (cdv ct : Value) (us : List Value), us.length = 1 → bindArgs (fnOf nm q (defArgs st) (defBody st) (defScope st) .none kV doc pm an cdv ct) ⟨us, []⟩ = pure ((["self"] : List Str).zip us))
    (c : Cls K C) (n : NoAttr K C f) : OkF P w K mg base CX 1 g ["self"] (getSp C f) := by
  obtain ⟨fd, F⟩ := hF
  refine ⟨⟨fd, ?_, F.binds hbd⟩, F.kp⟩
  obtain ⟨oc, od, kV, doc, pm, an, cdv, ct, osl, rfl, lk, hcd⟩ := F.ex
  exact fn_getter (k := 0) lk hcd S rfl hb c n
/-- a def that lets nothing out -/
theorem OkF.mk0 {nm q : Str} {st : Stmt} {f : Addr} {N ps : List Str} {k : Nat} {sp : Sp} (hF : ∃ fd, Fun K nm q st f fd) (S : FnScope N ps (defScope st))
    (hbd : ∀ (kV doc pm : Value) (an : Option Addr) (cdv ct : Value) (us : List Value), us.length = ps.length → bindArgs (fnOf nm q (defArgs st) (defBody st) (defScope st) .none kV doc pm an cdv ct) ⟨us, []⟩ = pure (ps.zip us))
    (len : ∀ vs H Q E, sp vs H Q E → vs.length = ps.length)
    (hbody : ∀ (cdv : Value) (A : Around) (outer : List Env) (s : Shared) (H : Hp) (vs : List V) (Q : VK) (E : XK), Room k (A.deeper (envOfC q (defScope st) s.heap.objs.size f cdv)) → sp vs H Q E →
      ∃ t, PSs (cxOf CX0 P w K mg base N q (defScope st) f cdv A outer s H E).nox (defBody st) t ∧ t { nx := fun _ H' => Q .non H', rt := Q } (start N vs) H) : OkF P w K mg base CX0 (k + 1) f ps sp := by
  obtain ⟨fd, F⟩ := hF
  exact ⟨⟨fd, F.ok S len hbody, F.binds hbd⟩, F.kp⟩
/-- a def that may raise -/
theorem OkF.mkX {nm q : Str} {st : Stmt} {f : Addr} {N ps : List Str} {k : Nat} {sp : Sp} (hF : ∃ fd, Fun K nm q st f fd) (S : FnScope N ps (defScope st))
    (hbd : ∀ (kV doc pm : Value) (an : Option Addr) (cdv ct : Value) (us : List Value), us.length = ps.length → bindArgs (fnOf nm q (defArgs st) (defBody st) (defScope st) .none kV doc pm an cdv ct) ⟨us, []⟩ = pure (ps.zip us))
    (len : ∀ vs H Q E, sp vs H Q E → vs.length = ps.length)
    (hbody : ∀ (cdv : Value) (A : Around) (outer : List Env) (s : Shared) (H : Hp) (vs : List V) (Q : VK) (E : XK), Room k (A.deeper (envOfC q (defScope st) s.heap.objs.size f cdv)) → sp vs H Q E →
      ∃ t, PSs (cxOf (L2.CX P w) P w K mg base N q (defScope st) f cdv A outer s H E) (defBody st) t ∧ t { nx := fun _ H' => Q .non H', rt := Q } (start N vs) H) : OkF P w K mg base (L2.CX P w) (k + 1) f ps sp := by
  obtain ⟨fd, F⟩ := hF
  exact ⟨⟨fd, F.okX S len hbody, F.binds hbd⟩, F.kp⟩
/-- a lower level serves a higher -/
theorem OkF.up {CX : CXT} {j k : Nat} {f : Addr} {ps : List Str} {sp : Sp} (G : OkF P w K mg base CX j f ps sp) (h : j ≤ k) : OkF P w K mg base CX k f ps sp := by
  obtain ⟨fd, F, b⟩ := G.ex
  exact ⟨⟨fd, ⟨F.len, fun A outer s H args us vs Q E hr => F.run A outer s H args us vs Q E (hr.mono h)⟩, b⟩, G.kp⟩
theorem OkF.mapE {CX : CXT} {j : Nat} {f : Addr} {ps : List Str} {sp sp2 : Sp} (G : OkF P w K mg base CX j f ps sp) (h : ∀ vs H Q E, sp2 vs H Q E → sp vs H Q E) : OkF P w K mg base CX j f ps sp2 := by
  obtain ⟨fd, F, b⟩ := G.ex
  exact ⟨⟨fd, ⟨fun vs H Q E z => F.len vs H Q E (h vs H Q E z), fun A outer s H args us vs Q E hr e hb hv z => F.run A outer s H args us vs Q E hr e hb hv (h vs H Q E z)⟩, b⟩, G.kp⟩
/-- the two ways an exception of ours goes on -/
theorem passN {X : Cx} {E : XK} : Passes CX0 X E := fun _ _ _ _ _ _ _ h => h.elim
end
end K56
set_option Elab.async false
set_option linter.all false
set_option maxRecDepth 100000
set_option maxHeartbeats 4000000
/-! K56, part B0: what the readers compute, in plain Lean; words about heaps. -/
namespace K56
open PySem PySem.W PyProof.Rows L2 Evl He
/-! ### words -/
def LET : Str := "abcdefghijklmnopqrstuvwxyz"
def RES : List Str := ["facts", "is", "if", "not", "else"]
def lets (z : Str) : Bool := z.cps.toList.all fun c => decide (c ∈ LET.cps.toList)
def isName (z : Str) : Bool := (decide (1 ≤ z.length) && decide (z.length ≤ 8)) && lets z
def isFree (z : Str) : Bool := isName z && !decide (z ∈ RES)
def ltS (a b : Str) : Bool := decide (a.cps.toList < b.cps.toList)
def wd (ws : List Str) (p : Nat) : Str := (ws[p]?).getD ""
/-! ### the row of facts -/
def factBad (ws : List Str) (k : Nat) : Bool := !(isFree (wd ws k)) || ((decide (1 < k) && !(ltS (wd ws (k - 1)) (wd ws k))) || decide (60 < k))
def rdFacts (ws : List Str) : Sum Nat (List Str) :=
  if wd ws 0 = "facts" then (match (List.range' 1 (ws.length - 1)).find? (factBad ws) with
    | some k => .inl k
    | none => if 1 < ws.length then .inr (ws.drop 1) else .inl 1) else .inl 0
/-! ### one side of a condition -/
def lastS (found : List Str) : Str := found.getLast?.getD ""
def sideOk (fs bar : List Str) (most : Nat) (found : List Str) (w : Str) : Bool :=
  decide (w ∈ fs) && (!(!decide (found = []) && !(ltS (lastS found) w)) && (!decide (w ∈ bar) && decide (found.length < most)))
def sideGo (fs bar : List Str) (most : Nat) : List Str → List Str → Nat → Sum Nat (List Str × Nat)
  | [], found, k => if found = [] then .inl k else .inr (found, k)
  | w :: r, found, k => if w = "not" ∧ found ≠ [] then .inr (found, k) else if sideOk fs bar most found w = true then sideGo fs bar most r (found ++ [w]) (k + 1) else .inl k
def rdIf (fs bar : List Str) (most : Nat) (key : Str) (ws : List Str) (k : Nat) : Sum Nat (List Str × Nat) :=
  if wd ws k = key then sideGo fs bar most (ws.drop (k + 1)) [] (k + 1) else .inr ([], k)
def rdCond (fs ws : List Str) (k : Nat) : Sum Nat (List Str × List Str) :=
  match rdIf fs [] 8 "if" ws k with
  | .inl e => .inl e
  | .inr (h, k1) => match rdIf fs h (8 - h.length) "not" ws k1 with
    | .inl e => .inl e
    | .inr (f, k2) => if k2 = ws.length then .inr (h, f) else .inl k2
/-! ### one rule's row -/
structure KR where
  dp : Nat
  nm : Str
  ho : List Str
  fa : List Str
  ru : Str
  deriving Inhabited
def marks : List Str → Nat
  | [] => 0
  | w :: r => if w = ">" then marks r + 1 else 0
def rdRule (fs ns : List Str) (deep : Nat) (ws : List Str) : Sum Nat KR :=
  if deep < marks ws then .inl deep
  else if (isFree (wd ws (marks ws)) && !decide (wd ws (marks ws) ∈ ns)) = false then .inl (marks ws)
  else if wd ws (marks ws + 1) ≠ "is" then .inl (marks ws + 1)
  else if isFree (wd ws (marks ws + 2)) = false then .inl (marks ws + 2)
  else match rdCond fs ws (marks ws + 3) with
    | .inl e => .inl e
    | .inr (h, f) => .inr ⟨marks ws, wd ws (marks ws), h, f, wd ws (marks ws + 2)⟩
def outer (known : List KR) : Nat := (known.filter fun r => decide (r.dp = 0)).length
def deepest (known : List KR) : Nat := match known.getLast? with
  | none => 0
  | some r => min 5 (r.dp + 1)
/-! ### the whole -/
def bookGo (fs : List Str) : List (List Str) → Nat → List KR → Sum (Nat × Nat) (List KR × Str)
  | [], k, _ => .inl (k, 0)
  | ws :: r, k, known =>
    if wd ws 0 = "else" then
      (if isFree (wd ws 1) = false then .inl (k, 1) else if 2 < ws.length then .inl (k, 2) else if r ≠ [] then .inl (k + 1, 0) else .inr (known, wd ws 1))
    else if ¬ (known.length < 60 ∧ (wd ws 0 = ">" ∨ outer known < 40)) then .inl (k, 0)
    else match rdRule fs (known.map (·.nm)) (deepest known) ws with
      | .inl e => .inl (k, e)
      | .inr kr => bookGo fs r (k + 1) (known ++ [kr])
inductive Fo where
  | nil : Fo
  | cons (k : KR) (inner rest : Fo) : Fo
def nestW (f : List KR → Fo) (d : Nat) : List KR → Fo
  | [] => .nil
  | r :: rest => if r.dp = d then .cons r (f (rest.takeWhile fun x => decide (d < x.dp))) (nestW f d rest) else nestW f d rest
def nest : Nat → Nat → List KR → Fo
  | 0, _ => fun _ => .nil
  | n + 1, d => nestW (nest n (d + 1)) d
def tupS (ws : List Str) : PyData := .tuple (ws.map .str)
def Fo.data : Fo → List PyData
  | .nil => []
  | .cons k i r => .tuple [.str k.nm, tupS k.ho, tupS k.fa, .str k.ru, .tuple i.data] :: r.data
def rowsT (t : Str) : List (List Str) := (Txt.split t "\n").map fun r => Txt.split r " "
/-! ### values -/
theorem flat_strs (ws : List Str) : (ws.map V.str).all flatV = true := by
  rw [List.all_map]
  exact List.all_eq_true.mpr fun _ _ => rfl
theorem inV_strs (z : Str) (ws : List Str) : inV (.str z) (ws.map V.str) = decide (z ∈ ws) := by
  unfold inV
  induction ws with
  | nil => rfl
  | cons w r ih =>
    rw [List.map_cons, List.any_cons, ih]
    show ((w == z) || decide (z ∈ r)) = _
    by_cases h : w = z
    · subst h
      simp
    · have h2 : (w == z) = false := by simpa using h
      have h3 : z ≠ w := fun e => h e.symm
      rw [h2]
      simp [h3]
theorem dec_str (a b : Str) : decide (V.str a = V.str b) = decide (a = b) := by
  by_cases h : a = b
  · subst h
    simp
  · have h2 : V.str a ≠ V.str b := fun e => h (V.str.inj e)
    rw [decide_eq_false h, decide_eq_false h2]
theorem dec_int (a b : Int) : decide (V.int a = V.int b) = decide (a = b) := by
  by_cases h : a = b
  · subst h
    simp
  · have h2 : V.int a ≠ V.int b := fun e => h (V.int.inj e)
    rw [decide_eq_false h, decide_eq_false h2]
theorem dec_bl (a b : Bool) : decide (V.bl a = V.bl b) = decide (a = b) := by
  cases a <;> cases b <;> decide
theorem wd_at {ws : List Str} {p : Nat} (h : p < ws.length) : ws[p]? = some (wd ws p) := by
  unfold wd
  rw [List.getElem?_eq_getElem h]
  rfl
theorem at_str {ws : List Str} {p : Nat} (h : p < ws.length) : atI (ws.map V.str) ((p : Nat) : Int) = some (.str (wd ws p)) := atI_nat (by rw [List.getElem?_map, wd_at h]; rfl)
theorem at_lastS {found : List Str} (h : found ≠ []) : atI (found.map V.str) (-1) = some (.str (lastS found)) := by
  obtain ⟨xs, x, rfl⟩ : ∃ xs x, found = xs ++ [x] := ⟨found.dropLast, found.getLast h, (List.dropLast_concat_getLast h).symm⟩
  rw [List.map_append]
  have e : lastS (xs ++ [x]) = x := by
    unfold lastS
    rw [List.getLast?_append]
    rfl
  rw [e]
  exact atI_last _ _
/-! ### the heap -/
/-- what is raised: InvalidText at a row and a word -/
def Rz (K : Frag) (F : Hp) (n p : Int) (E : XK) : Prop := ∀ d H', Ex F H' → H' d = some (.xd (itD (.int n) (.int p))) → E (.ref (ga K "InvalidText")) (some d) H'
theorem Rz.mono {K : Frag} {F G : Hp} {n p : Int} {E : XK} (h : Rz K F n p E) (e : Ex F G) : Rz K G n p E := fun d H' e2 x => h d H' (e.trans e2) x
def RowAt (K : Frag) (H : Hp) (r : Addr) (n : Int) (wl : Addr) (p : Nat) : Prop := ∃ dx, H r = some (.ins (ga K "Row") dx [("number", .int n), ("words", .ref wl), ("place", .int p)])
theorem RowAt.mono {K : Frag} {H H' : Hp} {r wl : Addr} {n : Int} {p : Nat} (h : RowAt K H r n wl p) (e : Ex H H') : RowAt K H' r n wl p := by
  obtain ⟨dx, h⟩ := h
  exact ⟨dx, e r _ h⟩
abbrev SL (H : Hp) (a : Addr) (ws : List Str) : Prop := H a = some (.lst (ws.map V.str))
abbrev ST (H : Hp) (a : Addr) (ws : List Str) : Prop := H a = some (.tup (ws.map V.str))
theorem Ev.v {te : TE} {σ : L2.St} {H : Hp} {v : V} {Q : VK} (h : Ev te σ H v) (k : ∀ H2, Ex H H2 → Q v H2) : te σ H Q := h H (Ex.refl H) Q k
theorem EvT.v {t : TT} {σ : L2.St} {H : Hp} {b : Bool} {Q : Bool → Hp → Prop} (h : EvT t σ H b) (k : ∀ H2, Ex H H2 → Q b H2) : t σ H Q := h H (Ex.refl H) Q k
/-- a field -/
theorem ev_pf {C a dx : Addr} {f : Str} {fs : List (Str × V)} {v : V} {ta : TE} {σ : L2.St} {H : Hp} (ha : Ev ta σ H (.ref a)) (h : H a = some (.ins C dx fs)) (l : fs.lookup f = some v) : Ev (tPf C f ta) σ H v := fun H1 e Q q =>
  ha H1 e _ fun H2 e2 => ⟨a, dx, fs, v, rfl, e2 a _ (e a _ h), l, q H2 e2⟩
/-- calls whose promise gives a value -/
theorem ev_k {sp : Sp} {E : XK} {ta : TA} {vs : List V} {z : V} {σ : L2.St} {H : Hp} (h : EvA ta σ H vs) (hs : ∀ H1, Ex H H1 → ∀ Q : VK, RetV z H1 Q → ∀ E, sp vs H1 Q E) : Ev (tK sp E ta) σ H z := fun H1 e Q q =>
  h H1 e _ fun H2 e2 => hs H2 (e.trans e2) Q (fun H3 e3 => q H3 (e2.trans e3)) E
theorem ev_m {sp : Sp} {E : XK} {C a dx : Addr} {m : Str} {fs : List (Str × V)} {tt : TE} {ta : TA} {vs : List V} {z : V} {σ : L2.St} {H : Hp} (ht : Ev tt σ H (.ref a)) (hi : H a = some (.ins C dx fs)) (hl : fs.lookup m = none) (h : EvA ta σ H vs)
    (hs : ∀ H1, Ex H H1 → ∀ Q : VK, RetV z H1 Q → ∀ E, sp (.ref a :: vs) H1 Q E) : Ev (tM C m sp E tt ta) σ H z := fun H1 e Q q =>
  ht H1 e _ fun H2 e2 => ⟨a, dx, fs, rfl, e2 a _ (e a _ hi), hl, h H2 (e.trans e2) _ fun H3 e3 => hs H3 ((e.trans e2).trans e3) Q (fun H4 e4 => q H4 ((e2.trans e3).trans e4)) E⟩
theorem go_pf {C a dx : Addr} {f : Str} {fs : List (Str × V)} {v : V} {ta : TE} {σ : L2.St} {H : Hp} {Q : VK} (ha : Ev ta σ H (.ref a)) (h : H a = some (.ins C dx fs)) (l : fs.lookup f = some v) (k : ∀ H2, Ex H H2 → Q v H2) : tPf C f ta σ H Q := (ev_pf ha h l) H (Ex.refl H) Q k
theorem go_k {sp : Sp} {E : XK} {ta : TA} {vs : List V} {σ : L2.St} {H : Hp} {Q : VK} (h : EvA ta σ H vs) (k : ∀ H2, Ex H H2 → sp vs H2 Q E) : tK sp E ta σ H Q := h H (Ex.refl H) _ k
theorem go_mk {C : Addr} {sp : Sp} {E : XK} {ta : TA} {vs : List V} {σ : L2.St} {H : Hp} {Q : VK} (h : EvA ta σ H vs) (k : ∀ H2, Ex H H2 → ∀ x dx, H2 x = none → H2 dx = none → dx ≠ x → sp (.ref x :: vs) (upd (upd H2 dx (.own x)) x (.ins C dx [])) (fun v H3 => v = .non ∧ Q (.ref x) H3) E) :
    tMk C sp E ta σ H Q := h H (Ex.refl H) _ fun H1 e1 x dx a b c => k H1 e1 x dx a b c
theorem go_m {C a dx : Addr} {m : Str} {fs : List (Str × V)} {sp : Sp} {E : XK} {tt : TE} {ta : TA} {vs : List V} {σ : L2.St} {H : Hp} {Q : VK} (ht : Ev tt σ H (.ref a)) (hi : H a = some (.ins C dx fs)) (hl : fs.lookup m = none) (h : EvA ta σ H vs) (k : ∀ H2, Ex H H2 → sp (.ref a :: vs) H2 Q E) :
    tM C m sp E tt ta σ H Q := ht H (Ex.refl H) _ fun H1 e1 => ⟨a, dx, fs, rfl, e1 a _ hi, hl, h H1 e1 _ fun H2 e2 => k H2 (e1.trans e2)⟩
/-- a new instance, its fields not yet there -/
theorem ex_inst {C : Addr} {H : Hp} {x dx : Addr} (hx : H x = none) (hdx : H dx = none) (ne : dx ≠ x) : Ex H (upd (upd H dx (.own x)) x (.ins C dx [])) := (Ex.new hdx).trans (Ex.new (by rw [upd_ne ne.symm]; exact hx))
theorem q_par {i j : Nat} {ta : TA} {v u : V} {D : Ends} {tz : TS} {σ : L2.St} {H : Hp} (h : EvA ta σ H [v, u]) (k : ∀ H2, Ex H H2 → tz D ((σ.set i (some v)).set j (some u)) H2) : tSeq (tPar i j ta) tz D σ H := h H (Ex.refl H) _ fun H1 e1 => ⟨v, u, rfl, k H1 e1⟩
theorem rv_lt {a b : Str} {H : Hp} : RV (fun x y H Q => ∃ i j : Str, x = .str i ∧ y = .str j ∧ Q (.bl (decide (i.cps.toList < j.cps.toList))) H) (.str a) (.str b) H (.bl (ltS a b)) := fun H1 _ _ q => ⟨a, b, rfl, rfl, q H1 (Ex.refl H1)⟩
theorem rv_gt {a b : Str} {H : Hp} : RV (fun x y H Q => ∃ i j : Str, x = .str i ∧ y = .str j ∧ Q (.bl (decide (j.cps.toList < i.cps.toList))) H) (.str a) (.str b) H (.bl (ltS b a)) := fun H1 _ _ q => ⟨a, b, rfl, rfl, q H1 (Ex.refl H1)⟩
theorem rv_le {a b : Str} {H : Hp} : RV (fun x y H Q => ∃ i j : Str, x = .str i ∧ y = .str j ∧ Q (.bl (!decide (j.cps.toList < i.cps.toList))) H) (.str a) (.str b) H (.bl (!ltS b a)) := fun H1 _ _ q => ⟨a, b, rfl, rfl, q H1 (Ex.refl H1)⟩
theorem rv_eqs {a b : Str} {H : Hp} : RV rEq (.str a) (.str b) H (.bl (decide (a = b))) := by
  have h := rv_eq (x := .str a) (y := .str b) (H := H) rfl
  rw [dec_str] at h
  exact h
theorem rv_nes {a b : Str} {H : Hp} : RV rNe (.str a) (.str b) H (.bl (!decide (a = b))) := by
  have h := rv_ne (x := .str a) (y := .str b) (H := H) rfl
  rw [dec_str] at h
  exact h
theorem rv_eqi {a b : Int} {H : Hp} : RV rEq (.int a) (.int b) H (.bl (decide (a = b))) := by
  have h := rv_eq (x := .int a) (y := .int b) (H := H) rfl
  rw [dec_int] at h
  exact h
theorem rv_nei {a b : Int} {H : Hp} : RV rNe (.int a) (.int b) H (.bl (!decide (a = b))) := by
  have h := rv_ne (x := .int a) (y := .int b) (H := H) rfl
  rw [dec_int] at h
  exact h
theorem rv_eqb {a b : Bool} {H : Hp} : RV rEq (.bl a) (.bl b) H (.bl (decide (a = b))) := by
  have h := rv_eq (x := .bl a) (y := .bl b) (H := H) rfl
  rw [dec_bl] at h
  exact h
theorem rv_neb {a b : Bool} {H : Hp} : RV rNe (.bl a) (.bl b) H (.bl (!decide (a = b))) := by
  have h := rv_ne (x := .bl a) (y := .bl b) (H := H) rfl
  rw [dec_bl] at h
  exact h
theorem rv_inS {K : Frag} {H : Hp} {p : Addr} {z : Str} {ws : List Str} (h : SqL K H p (ws.map V.str) ∨ SqT K H p (ws.map V.str)) : RV (rIn K false) (.str z) (.ref p) H (.bl (decide (z ∈ ws))) := by
  rw [← inV_strs]
  rcases h with h | h
  · exact rv_isL h rfl (flat_strs ws)
  · exact rv_isT h rfl (flat_strs ws)
theorem rv_niS {K : Frag} {H : Hp} {p : Addr} {z : Str} {ws : List Str} (h : SqL K H p (ws.map V.str) ∨ SqT K H p (ws.map V.str)) : RV (rIn K true) (.str z) (.ref p) H (.bl (!decide (z ∈ ws))) := by
  rw [← inV_strs]
  rcases h with h | h
  · exact rv_niL h rfl (flat_strs ws)
  · exact rv_niT h rfl (flat_strs ws)
/-- == [], != [] of a tracked list -/
theorem ev_eqE {K : Frag} {ta tb : TE} {σ : L2.St} {H : Hp} {a : Addr} {xs : List V} (ha : Ev ta σ H (.ref a)) (h : SqL K H a xs) (hb : EvL tb σ H []) : Ev (tOp (rEqE K) ta tb) σ H (.bl (decide (xs = []))) :=
  ev_opL ha hb fun p H1 hp e => fun H2 e2 Q q => ⟨a, p, xs, rfl, rfl, .inl ⟨ex_l (e.trans e2) h, sq_of (e2 p _ hp)⟩, q H2 (Ex.refl H2)⟩
theorem ev_neE {K : Frag} {ta tb : TE} {σ : L2.St} {H : Hp} {a : Addr} {xs : List V} (ha : Ev ta σ H (.ref a)) (h : SqL K H a xs) (hb : EvL tb σ H []) : Ev (tOp (rNeE K) ta tb) σ H (.bl (!decide (xs = []))) :=
  ev_opL ha hb fun p H1 hp e => fun H2 e2 Q q => ⟨a, p, xs, rfl, rfl, .inl ⟨ex_l (e.trans e2) h, sq_of (e2 p _ hp)⟩, q H2 (Ex.refl H2)⟩
theorem ev_eqET {K : Frag} {ta tb : TE} {σ : L2.St} {H : Hp} {a : Addr} {xs : List V} (ha : Ev ta σ H (.ref a)) (h : SqT K H a xs) (hb : EvU tb σ H []) : Ev (tOp (rEqE K) ta tb) σ H (.bl (decide (xs = []))) :=
  ev_opU ha hb fun p H1 hp e => fun H2 e2 Q q => ⟨a, p, xs, rfl, rfl, .inr ⟨ex_t (e.trans e2) h, st_of (e2 p _ hp)⟩, q H2 (Ex.refl H2)⟩
theorem ev_neET {K : Frag} {ta tb : TE} {σ : L2.St} {H : Hp} {a : Addr} {xs : List V} (ha : Ev ta σ H (.ref a)) (h : SqT K H a xs) (hb : EvU tb σ H []) : Ev (tOp (rNeE K) ta tb) σ H (.bl (!decide (xs = []))) :=
  ev_opU ha hb fun p H1 hp e => fun H2 e2 Q q => ⟨a, p, xs, rfl, rfl, .inr ⟨ex_t (e.trans e2) h, st_of (e2 p _ hp)⟩, q H2 (Ex.refl H2)⟩
/-- [..] == [], the left one new -/
theorem ev_eqNE {K : Frag} {ta tb : TE} {σ : L2.St} {H : Hp} {xs : List V} (ha : EvL ta σ H xs) (hb : EvL tb σ H []) : Ev (tOp (rEqE K) ta tb) σ H (.bl (decide (xs = []))) :=
  ev_opLL ha hb fun p q H1 hp hq e => fun H2 e2 Q k => ⟨p, q, xs, rfl, rfl, .inl ⟨sq_of (e2 p _ hp), sq_of (e2 q _ hq)⟩, k H2 (Ex.refl H2)⟩
theorem ev_neNE {K : Frag} {ta tb : TE} {σ : L2.St} {H : Hp} {xs : List V} (ha : EvL ta σ H xs) (hb : EvL tb σ H []) : Ev (tOp (rNeE K) ta tb) σ H (.bl (!decide (xs = []))) :=
  ev_opLL ha hb fun p q H1 hp hq e => fun H2 e2 Q k => ⟨p, q, xs, rfl, rfl, .inl ⟨sq_of (e2 p _ hp), sq_of (e2 q _ hq)⟩, k H2 (Ex.refl H2)⟩
theorem el_nil {σ : L2.St} {H : Hp} : EvL (tLst tNil) σ H [] := el_lst ea_nil (Nat.zero_le _)
theorem eu_nil {σ : L2.St} {H : Hp} : EvU (tTup tNil) σ H [] := eu_tup ea_nil (Nat.zero_le _)
/-- a chain of comparisons -/
theorem ev_chain {r r' : R2} {ta tb tc : TE} {σ : L2.St} {H : Hp} {x y z : V} {b c : Bool} (ha : Ev ta σ H x) (hb : Ev tb σ H y) (hc : Ev tc σ H z) (h1 : RV r x y H (.bl b)) (h2 : RV r' y z H (.bl c)) : Ev (tChain r r' ta tb tc) σ H (.bl (b && c)) := fun H1 e Q q =>
  ha H1 e _ fun H2 e2 => hb H2 (e.trans e2) _ fun H3 e3 => h1 H3 ((e.trans e2).trans e3) _ fun H4 e4 => ⟨b, rfl, by
    cases b with
    | false => exact q H4 ((e2.trans e3).trans e4)
    | true => exact hc H4 (((e.trans e2).trans e3).trans e4) _ fun H5 e5 => h2 H5 ((((e.trans e2).trans e3).trans e4).trans e5) Q fun H6 e6 => q H6 (((((e2.trans e3).trans e4).trans e5).trans e6))⟩
/-- isinstance with one built-in class, a tuple of them -/
theorem rc_isi {K : Frag} {H : Hp} {x : V} {t u : String} {b : Bool} (ty : ∀ H1, Ex H H1 → TyX K H1 x (.type t)) (k : kitB t u = some b := by decide +kernel) : RC (rIsi K) [x, .ty u] H (.bl b) := fun H1 e _ q =>
  ⟨x, .ty u, .type t, .type u, b, rfl, .ty u, ty H1 e, kit_ty k, q H1 (Ex.refl H1)⟩
/-- a walk over a text's signs -/
theorem el_lcS {x : Str} {tl te : TE} {t : TT} {j : Nat} {vs : List Nat} {σ : L2.St} {H : Hp} (f : Nat → Bool) (v : Nat → V) (h : Ev tl σ H (.str x)) (hz : x.cps.size ≤ 40000) (hw : ∀ x, wipe ((wipe σ vs).set j (some x)) vs = wipe σ vs)
    (ht : ∀ (i c : Nat) H1, Ex H H1 → x.cps[i]? = some c → EvT t ((wipe σ vs).set j (some (.str ⟨#[c]⟩))) H1 (f i)) (he : ∀ (i c : Nat) H1, Ex H H1 → x.cps[i]? = some c → f i = true → Ev te ((wipe σ vs).set j (some (.str ⟨#[c]⟩))) H1 (v i)) :
    EvL (tLc (iStr tl) (gName j) t te vs) σ H (Evl.given x.cps.size f v) := fun H0 e Q q => h H0 e _ fun H1 e1 => ⟨x, rfl, fun Dl hD =>
  lc_str (Cw H1 f v Dl) ⟨hD, Ex.new hD, upd_same⟩ (fun i c H' hi p => ⟨hw _, cw_turn p (by have := (Array.getElem?_eq_some_iff.mp hi).1; omega) (ht i c H1 (e.trans e1) hi) (fun hf => he i c H1 (e.trans e1) hi hf)⟩)
    (fun H' p => q Dl H' (fresh_back e1 p.1) (e1.trans p.2.1) p.2.2)⟩
theorem given_nil {n : Nat} {f : Nat → Bool} {v : Nat → V} : decide (Evl.given n f v = []) = (List.range n).all fun i => !f i := by
  unfold Evl.given
  rw [Bool.eq_iff_iff, decide_eq_true_eq, List.map_eq_nil_iff, List.filter_eq_nil_iff, List.all_eq_true]
  constructor
  · intro h x hx
    have := h x hx
    cases hf : f x with
    | true => exact absurd hf this
    | false => rfl
  · intro h x hx hf
    have := h x hx
    rw [hf] at this
    cases this
theorem lets_given (z : Str) (v : Nat → V) : decide (Evl.given z.cps.size (fun i => !decide ((z.cps[i]?).getD 0 ∈ LET.cps.toList)) v = []) = lets z := by
  rw [given_nil]
  unfold lets
  rw [Bool.eq_iff_iff, List.all_eq_true, List.all_eq_true]
  constructor
  · intro h c hc
    obtain ⟨i, hi, e⟩ := List.getElem_of_mem hc
    have hi' : i < z.cps.size := by simpa using hi
    have := h i (List.mem_range.mpr hi')
    rw [Bool.not_not, Array.getElem?_eq_getElem hi'] at this
    have e2 : z.cps[i] = c := by
      rw [← e]
      simp
    rw [Option.getD_some, e2] at this
    exact this
  · intro h i hi
    have hi' : i < z.cps.size := List.mem_range.mp hi
    rw [Bool.not_not, Array.getElem?_eq_getElem hi', Option.getD_some]
    exact h _ (by simp)
end K56
set_option Elab.async false
set_option linter.all false
set_option maxRecDepth 100000
set_option maxHeartbeats 4000000
/-! K56, part D1: names, a row's own methods. -/
namespace K56
open PySem PySem.W PyProof.Rows L2 Evl He
/-! ### promises -/
def spIsName : Sp := fun vs H Q _ => ∃ z : Str, vs = [.str z] ∧ z.length ≤ 30000 ∧ RetV (.bl (isName z)) H Q
def spFree : Sp := fun vs H Q _ => ∃ z : Str, vs = [.str z] ∧ z.length ≤ 30000 ∧ RetV (.bl (isFree z)) H Q
section
variable {P : Program} {w : World} {K : Frag} {mg : Str → Option Value} {base : Heap}
theorem rc_lenS {z : Str} {H : Hp} (h : z.length ≤ 30000) : RC (fun xs H Q => ∃ z : Str, xs = [.str z] ∧ z.length ≤ sizeLine ∧ Q (.int z.length) H) [.str z] H (.int (z.length : Nat)) := fun H1 _ _ q => ⟨z, rfl, sz_of (by omega), q H1 (Ex.refl H1)⟩
theorem ty_str {H : Hp} {z : Str} : ∀ H1, Ex H H1 → TyX K H1 (.str z) (.type "str") := fun _ _ => .base (.str z)
theorem rv_niC {c : Nat} {z : Str} {H : Hp} : RV (fun x y H Q => ∃ (c : Nat) (z : Str), x = .str ⟨#[c]⟩ ∧ y = .str z ∧ Q (.bl (!decide (c ∈ z.cps.toList))) H) (.str ⟨#[c]⟩) (.str z) H (.bl (!decide (c ∈ z.cps.toList))) := fun H1 _ _ q => ⟨c, z, rfl, rfl, q H1 (Ex.refl H1)⟩
theorem sc_is_name : FnScope ["thing", "sign"] ["thing"] (defScope sIsName) := ⟨rfl, rfl, rfl, by decide +kernel, rfl, by decide +kernel, by decide +kernel⟩
theorem ok_is_name (T : TX P K mg) : OkF P w K mg base CX0 (0 + 1) (ga K "is_name") ["thing"] spIsName := by
  refine OkF.mk0 T.d_is_name sc_is_name (fun _ _ _ _ _ _ us hl => match us, hl with | [_], _ => rfl) (fun vs H Q E h => ?_) (fun cdv A outs s H vs Q E hr h => ?_)
  · obtain ⟨_, rfl, _⟩ := h; rfl
  obtain ⟨z, rfl, hz, q⟩ := h
  refine ⟨_, (pss_cons (ps_if (pw_or (pt_not (pt_val (pe_callB call_isi (by rfl) T.b_isinstance (by decide +kernel) (pa_cons (pv 0) (pa_cons (pe_bltn (v := .ty "str") (by rfl) T.b_str (by decide +kernel) rfl) pa_nil))))) (pw_or1 (pt_not (pt_chain op_le op_le pe_int (pe_callB call_len_str (by rfl) T.b_len PySem.boot_len (pa_cons (pv 0) pa_nil)) (pe_glob (v := .int 8) (by rfl) T.i_LONGEST.choose_spec ⟨_, rfl⟩))))).pt (pss_one (ps_ret pe_bl)) pss_nil)
      (pss_one (ps_ret (pe_cmpR (op_eqE (hu_of hr)) (pe_lc (own := [("sign", 1)]) (g := (gName 1))  rfl sc_is_name.nd (pi_str (pv 0)) (blkOk_by (own := [("sign", 1)]) (N := ["thing", "sign"]) (sc := defScope sIsName) (by decide +kernel)) (fun _ _ _ _ _ => (pg_name (i := 1) sc_is_name.nd rfl (Or.inl rfl) (.inr (by rfl)))) (fun _ _ _ _ _ => pts_one (pt_cmpR op_notIn_sign (pv 1) (pe_glob (v := .str "abcdefghijklmnopqrstuvwxyz") (by rfl) T.s_LETTERS.choose_spec ⟨_, rfl⟩) rfl)) (fun _ _ _ _ _ => (pv 1))) (pe_lst pa_nil) (nomark _))))), ?_⟩
  refine q_when (et_or (et_not (et_B (ev_cb (ea_cons (ev_var rfl) (ea_cons ev_c ea_nil)) (rc_isi (b := true) ty_str)))) fun _ => et_not (et_test (ev_chain ev_c (ev_cb (ea_cons (ev_var rfl) ea_nil) (rc_lenS hz)) ev_c rv_I0 rv_I0))) (fun hb H1 e1 => ?_) (fun hb H1 e1 => ?_)
  · refine s_ret ev_c fun H2 e2 => ?_
    have : isName z = false := by
      unfold isName
      have h2 : ¬ (1 ≤ z.length ∧ z.length ≤ 8) := fun hh => by
        rw [decide_eq_true (show (1 : Int) ≤ (z.length : Int) by omega), decide_eq_true (show (z.length : Int) ≤ 8 by omega)] at hb
        cases hb
      by_cases h3 : 1 ≤ z.length
      · rw [decide_eq_false (show ¬ z.length ≤ 8 from fun h4 => h2 ⟨h3, h4⟩), Bool.and_false, Bool.false_and]
      · rw [decide_eq_false h3, Bool.false_and, Bool.false_and]
    rw [← this]
    exact q H2 (e1.trans e2)
  · refine s_ret (ev_eqNE (el_lcS (fun i => !decide ((z.cps[i]?).getD 0 ∈ LET.cps.toList)) (fun i => .str ⟨#[(z.cps[i]?).getD 0]⟩) (ev_var rfl) (by have : z.cps.size = z.length := rfl; omega) (fun x => rfl) (fun i c H2 e2 hc => ?_) (fun i c H2 e2 hc hf => ?_)) el_nil) fun H2 e2 => ?_
    · rw [hc]
      exact et_test (ev_op (ev_var rfl) ev_c rv_niC)
    · rw [hc]
      exact ev_var rfl
    · rw [lets_given]
      have : isName z = lets z := by
        unfold isName
        by_cases h2 : 1 ≤ z.length ∧ z.length ≤ 8
        · rw [decide_eq_true h2.1, decide_eq_true h2.2]
          rfl
        · exfalso
          revert hb
          rw [Bool.not_true, Bool.false_or]
          by_cases h3 : (1 : Int) ≤ (z.length : Int)
          · rw [decide_eq_false (show ¬ (z.length : Int) ≤ 8 from fun h4 => h2 ⟨by omega, by omega⟩), Bool.and_false]
            exact fun h => nomatch h
          · rw [decide_eq_false h3, Bool.false_and]
            exact fun h => nomatch h
      rw [← this]
      exact q H2 (e1.trans e2)
theorem sc_is_free_name : FnScope ["word"] ["word"] (defScope sFree) := ⟨rfl, rfl, rfl, by decide +kernel, rfl, by decide +kernel, by decide +kernel⟩
theorem ok_is_free_name (T : TX P K mg) : OkF P w K mg base CX0 (1 + 1) (ga K "is_free_name") ["word"] spFree := by
  refine OkF.mk0 T.d_is_free_name sc_is_free_name (fun _ _ _ _ _ _ us hl => match us, hl with | [_], _ => rfl) (fun vs H Q E h => ?_) (fun cdv A outs s H vs Q E hr h => ?_)
  · obtain ⟨_, rfl, _⟩ := h; rfl
  obtain ⟨z, rfl, hz, q⟩ := h
  refine ⟨_, (pss_one (ps_ret (pe_and (pe_c (ok_is_name T) hr (by omega) T.g_is_name (E := E0) passN (pa_cons (pv 0) pa_nil)) (pe_one (pe_cmpR op_notIn_seq (pv 0) (pe_glob (v := .ref (ga K "RESERVED")) (by rfl) T.g_RESERVED rfl) rfl))))), ?_⟩
  exact s_ret (ev_andV (ev_k (ea_cons (ev_var rfl) ea_nil) fun H1 _ Q q _ => ⟨z, rfl, hz, q⟩) fun _ => ev_op (ev_var rfl) ev_c (rv_niS (ws := RES) (.inr (T.res _)))) q
/-! ### a row -/
def spRowI (K : Frag) : Sp := fun vs H Q _ => ∃ (x dx : Addr) (n : Int) (wl : Addr) (F : Hp), vs = [.ref x, .int n, .ref wl] ∧ H x = some (.ins (ga K "Row") dx []) ∧ Ex F H ∧ F x = none ∧
  ∀ H', Ex F H' → RowAt K H' x n wl 0 → Q .non H'
/-- a row at r: its number, its words, the place -/
def atRow (K : Frag) (H : Hp) (r : Addr) (n : Int) (ws : List Str) (p : Nat) : Prop := ∃ wl, RowAt K H r n wl p ∧ SL H wl ws ∧ ws.length ≤ 30000 ∧ p ≤ ws.length ∧ ∀ z ∈ ws, z.length ≤ 30000
def spPeek (K : Frag) : Sp := fun vs H Q _ => ∃ (r : Addr) (n : Int) (ws : List Str) (p : Nat), vs = [.ref r] ∧ atRow K H r n ws p ∧ RetV (.str (wd ws p)) H Q
def spOver (K : Frag) : Sp := fun vs H Q _ => ∃ (r : Addr) (n : Int) (ws : List Str) (p : Nat), vs = [.ref r] ∧ atRow K H r n ws p ∧ RetV (.bl (decide (p = ws.length))) H Q
theorem atRow.mono {K : Frag} {H H' : Hp} {r : Addr} {n : Int} {ws : List Str} {p : Nat} (h : atRow K H r n ws p) (e : Ex H H') : atRow K H' r n ws p := by
  obtain ⟨wl, h1, h2, h3⟩ := h
  exact ⟨wl, h1.mono e, e wl _ h2, h3⟩
theorem sc_Row_init : FnScope ["self", "number", "words"] ["self", "number", "words"] (defScope sRowI) := ⟨rfl, rfl, rfl, by decide +kernel, rfl, by decide +kernel, by decide +kernel⟩
theorem ok_Row_init (T : TX P K mg) : OkF P w K mg base CX0 (0 + 1) (ma K (ga K "Row") "__init__") ["self", "number", "words"] (spRowI K) := by
  refine OkF.mk0 T.d_Row_init sc_Row_init (fun _ _ _ _ _ _ us hl => match us, hl with | [_, _, _], _ => rfl) (fun vs H Q E h => ?_) (fun cdv A outs s H vs Q E hr h => ?_)
  · obtain ⟨_, _, _, _, _, rfl, _⟩ := h; rfl
  obtain ⟨x, dx, n, wl, F, rfl, hx, eF, fx, q⟩ := h
  refine ⟨_, (pss_cons (ps_fld (pv 0) (pv 1) rfl)
      (pss_cons (ps_fld (pv 0) (pv 2) rfl)
      (pss_one (ps_fld (pv 0) pe_int rfl)))), ?_⟩
  refine ⟨_, rfl, _, rfl, x, _, dx, _, rfl, hx, T.c_Row, T.n_number, by decide, ?_⟩
  refine ⟨_, rfl, _, rfl, x, _, dx, _, rfl, upd_same, T.c_Row, T.n_words, (by show 1 < 1000; decide), ?_⟩
  refine ⟨_, rfl, x, _, dx, _, rfl, upd_same, T.c_Row, T.n_place, (by show 2 < 1000; decide), ?_⟩
  exact q _ (((eF.mut fx).mut fx).mut fx) ⟨dx, by rw [upd_same]; rfl⟩
theorem sc_Row_peek : FnScope ["self"] ["self"] (defScope sPeek) := ⟨rfl, rfl, rfl, by decide +kernel, rfl, by decide +kernel, by decide +kernel⟩
theorem ok_Row_peek (T : TX P K mg) : OkF P w K mg base CX0 (0 + 1) (ma K (ga K "Row") "peek") ["self"] (spPeek K) := by
  refine OkF.mk0 T.d_Row_peek sc_Row_peek (fun _ _ _ _ _ _ us hl => match us, hl with | [_], _ => rfl) (fun vs H Q E h => ?_) (fun cdv A outs s H vs Q E hr h => ?_)
  · obtain ⟨_, _, _, _, rfl, _⟩ := h; rfl
  obtain ⟨r, n, ws, p, rfl, ⟨wl, ⟨dx, hR⟩, hW, hz, hp, hs⟩, q⟩ := h
  refine ⟨_, (pss_one (ps_ret (pe_ifExp (pt_cmpR op_lt (pe_f T.c_Row T.n_place (pv 0)) (pe_callB call_len_seq (by rfl) T.b_len PySem.boot_len (pa_cons (pe_f T.c_Row T.n_words (pv 0)) pa_nil)) (nomark _)) (pe_ix ix_list (pe_f T.c_Row T.n_words (pv 0)) (pe_f T.c_Row T.n_place (pv 0)) (fun _ _ => rfl)) pe_str))), ?_⟩
  refine s_ret (ev_if (et_test (ev_op (ev_pf (ev_var rfl) hR rfl) (ev_len (ev_pf (ev_var rfl) hR rfl) (sq_of hW)) rv_I0)) (fun hb => ?_) (fun hb => ?_)) q
  · have h2 := of_decide_eq_true hb
    rw [List.length_map] at h2
    exact ev_op (ev_pf (ev_var rfl) hR rfl) (ev_pf (ev_var rfl) hR rfl) (rv_ixL (sq_of hW) (at_str (by omega)))
  · have h2 := of_decide_eq_false hb
    rw [List.length_map] at h2
    have : wd ws p = "" := by
      unfold wd
      rw [List.getElem?_eq_none (by omega)]
      rfl
    rw [this]
    exact ev_c
theorem sc_Row_is_over : FnScope ["self"] ["self"] (defScope sOver) := ⟨rfl, rfl, rfl, by decide +kernel, rfl, by decide +kernel, by decide +kernel⟩
theorem ok_Row_is_over (T : TX P K mg) : OkF P w K mg base CX0 (0 + 1) (ma K (ga K "Row") "is_over") ["self"] (spOver K) := by
  refine OkF.mk0 T.d_Row_is_over sc_Row_is_over (fun _ _ _ _ _ _ us hl => match us, hl with | [_], _ => rfl) (fun vs H Q E h => ?_) (fun cdv A outs s H vs Q E hr h => ?_)
  · obtain ⟨_, _, _, _, rfl, _⟩ := h; rfl
  obtain ⟨r, n, ws, p, rfl, ⟨wl, ⟨dx, hR⟩, hW, hz, hp, hs⟩, q⟩ := h
  refine ⟨_, (pss_one (ps_ret (pe_cmpR op_eq (pe_f T.c_Row T.n_place (pv 0)) (pe_callB call_len_seq (by rfl) T.b_len PySem.boot_len (pa_cons (pe_f T.c_Row T.n_words (pv 0)) pa_nil)) (nomark _)))), ?_⟩
  refine s_ret (ev_is (ev_op (ev_pf (ev_var rfl) hR rfl) (ev_len (ev_pf (ev_var rfl) hR rfl) (sq_of hW)) rv_eqi) ?_) q
  rw [List.length_map]
  congr 1
  rw [Bool.eq_iff_iff, decide_eq_true_eq, decide_eq_true_eq]
  omega
/-- a row at r within a frame F that doesn't know r: its words stand in F -/
structure RF (K : Frag) (F H : Hp) (r : Addr) (n : Int) (wl : Addr) (ws : List Str) (p : Nat) : Prop where
  wds : SL F wl ws
  len : ws.length ≤ 30000
  sml : ∀ z ∈ ws, z.length ≤ 30000
  ex : Ex F H
  fr : F r = none
  row : RowAt K H r n wl p
  le : p ≤ ws.length
theorem RF.at_ {F H : Hp} {r wl : Addr} {n : Int} {ws : List Str} {p : Nat} (R : RF K F H r n wl ws p) : atRow K H r n ws p := ⟨wl, R.row, R.ex wl _ R.wds, R.len, R.le, R.sml⟩
theorem RF.to_ {F H H' : Hp} {r wl : Addr} {n : Int} {ws : List Str} {p q : Nat} (R : RF K F H r n wl ws p) (e : Ex F H') (h : RowAt K H' r n wl q) (l : q ≤ ws.length) : RF K F H' r n wl ws q := ⟨R.wds, R.len, R.sml, e, R.fr, h, l⟩
theorem RF.mono {F H H' : Hp} {r wl : Addr} {n : Int} {ws : List Str} {p : Nat} (R : RF K F H r n wl ws p) (e : Ex H H') : RF K F H' r n wl ws p := ⟨R.wds, R.len, R.sml, R.ex.trans e, R.fr, R.row.mono e, R.le⟩
theorem ex_upd {F H : Hp} {l : Addr} {o : HO} (e : Ex F H) (h : H l = some o) : Ex (upd F l o) H := fun a u ha => by
  by_cases z : a = l
  · subst z
    rw [upd_same] at ha
    rw [h, ← ha]
  · rw [upd_ne z] at ha
    exact e a u ha
theorem ex_back {F H : Hp} {l : Addr} {o : HO} (e : Ex (upd F l o) H) (h : F l = none) : Ex F H := (Ex.new h).trans e
/-- the frame may hold one more object -/
theorem RF.grow {F H : Hp} {r wl l : Addr} {n : Int} {ws : List Str} {p : Nat} {o : HO} (R : RF K F H r n wl ws p) (hl : F l = none) (h : H l = some o) (ne : l ≠ r) : RF K (upd F l o) H r n wl ws p :=
  ⟨by
    show upd F l o wl = _
    rw [upd_ne (ne_of_none R.wds hl)]
    exact R.wds, R.len, R.sml, ex_upd R.ex h, by rw [upd_ne ne.symm]; exact R.fr, R.row, R.le⟩
theorem EvA.v {ta : TA} {σ : L2.St} {H : Hp} {vs : List V} {Q : List V → Hp → Prop} (h : EvA ta σ H vs) (k : ∀ H2, Ex H H2 → Q vs H2) : ta σ H Q := h H (Ex.refl H) Q k
def spCheck (K : Frag) : Sp := fun vs H Q E => ∃ (F : Hp) (r : Addr) (n : Int) (wl : Addr) (ws : List Str) (p : Nat) (b : Bool), vs = [.ref r, .bl b] ∧ RF K F H r n wl ws p ∧
  (b = true → RetV .non H Q) ∧ (b = false → Rz K F n p E)
def spTake (K : Frag) : Sp := fun vs H Q E => ∃ (F : Hp) (r : Addr) (n : Int) (wl : Addr) (ws : List Str) (p : Nat) (b : Bool), vs = [.ref r, .bl b] ∧ RF K F H r n wl ws p ∧
  ((!decide (p = ws.length) && b) = true → ∀ H', RF K F H' r n wl ws (p + 1) → Q (.str (wd ws p)) H') ∧ ((!decide (p = ws.length) && b) = false → Rz K F n p E)
def spTakeN (K : Frag) : Sp := fun vs H Q E => ∃ (F : Hp) (r : Addr) (n : Int) (wl : Addr) (ws : List Str) (p : Nat), vs = [.ref r] ∧ RF K F H r n wl ws p ∧
  (isFree (wd ws p) = true → ∀ H', RF K F H' r n wl ws (p + 1) → Q (.str (wd ws p)) H') ∧ (isFree (wd ws p) = false → Rz K F n p E)
def spEnd (K : Frag) : Sp := fun vs H Q E => ∃ (F : Hp) (r : Addr) (n : Int) (wl : Addr) (ws : List Str) (p : Nat), vs = [.ref r] ∧ RF K F H r n wl ws p ∧
  (p = ws.length → RetV .non H Q) ∧ (p ≠ ws.length → Rz K F n p E)
/-- raise InvalidText(row=n, word=p) -/
theorem s_raise {tk : TA} {n p : Int} {σ : L2.St} {H F : Hp} {E : XK} (h : EvA tk σ H [.int n, .int p]) (e : Ex F H) (k : Rz K F n p E) : tMkIT (iC K) tk σ H fun cls d H' => E cls d H' :=
  h H (Ex.refl H) _ fun H1 e1 => ⟨_, _, rfl, fun d hd => k d _ ((e.trans e1).trans (Ex.new hd)) upd_same⟩
theorem row_place {dx : Addr} {n : Int} {wl : Addr} {p : Nat} {H F : Hp} {r : Addr} (hf : F r = none) (e : Ex F H) :
    Ex F (upd H r (.ins (ga K "Row") dx (putF "place" (.int ((p : Int) + 1)) [("number", .int n), ("words", .ref wl), ("place", .int (p : Nat))]))) ∧
    RowAt K (upd H r (.ins (ga K "Row") dx (putF "place" (.int ((p : Int) + 1)) [("number", .int n), ("words", .ref wl), ("place", .int (p : Nat))]))) r n wl (p + 1) := ⟨e.mut hf, dx, by rw [upd_same]; rfl⟩
theorem at_eq {xs : List V} {i j : Int} {v : V} (h : atI xs i = some v) (e : i = j) : atI xs j = some v := e ▸ h
theorem wd_out {ws : List Str} {p : Nat} (h : ws.length ≤ p) : wd ws p = "" := by
  unfold wd
  rw [List.getElem?_eq_none h]
  rfl
theorem wd_mem {ws : List Str} {p : Nat} (h : p < ws.length) : wd ws p ∈ ws := List.mem_of_getElem? (wd_at h)
theorem wd_small {ws : List Str} {p : Nat} (h : ∀ z ∈ ws, z.length ≤ 30000) : (wd ws p).length ≤ 30000 := by
  rcases Nat.lt_or_ge p ws.length with q | q
  · exact h _ (wd_mem q)
  · rw [wd_out q]
    exact Nat.zero_le _
theorem free_nil : isFree "" = false := by decide +kernel
theorem sc_Row_check : FnScope ["self", "is_right"] ["self", "is_right"] (defScope sCheck) := ⟨rfl, rfl, rfl, by decide +kernel, rfl, by decide +kernel, by decide +kernel⟩
theorem ok_Row_check (T : TX P K mg) : OkF P w K mg base (L2.CX P w) (3 + 1) (ma K (ga K "Row") "check") ["self", "is_right"] (spCheck K) := by
  refine OkF.mkX T.d_Row_check sc_Row_check (fun _ _ _ _ _ _ us hl => match us, hl with | [_, _], _ => rfl) (fun vs H Q E h => ?_) (fun cdv A outs s H vs Q E hr h => ?_)
  · obtain ⟨_, _, _, _, _, _, _, rfl, _⟩ := h; rfl
  obtain ⟨F, r, n, wl, ws, p, b, rfl, R, q1, q2⟩ := h
  refine ⟨_, (pss_one (ps_if (pt_not (pt_val (pv 1))) (pss_one (ps_raiseIT rfl T.it hr (takes_of rfl rfl rfl rfl) (pk_cons (pe_f T.c_Row T.n_number (pv 0)) (pk_cons (pe_f T.c_Row T.n_place (pv 0)) pk_nil)))) pss_nil)), ?_⟩
  obtain ⟨dx, hR⟩ := R.row
  refine s_when (et_not (et_B (ev_var rfl))) (fun hb H1 e1 => ?_) (fun hb H1 e1 => ?_)
  · exact s_raise (ea_cons (ev_pf (ev_var rfl) (e1 r _ hR) rfl) (ea_cons (ev_pf (ev_var rfl) (e1 r _ hR) rfl) ea_nil)) (R.ex.trans e1) (q2 (by simpa using hb))
  · exact q1 (by simpa using hb) H1 e1
theorem sc_Row_take : FnScope ["self", "is_right"] ["self", "is_right"] (defScope sTake) := ⟨rfl, rfl, rfl, by decide +kernel, rfl, by decide +kernel, by decide +kernel⟩
theorem ok_Row_take (T : TX P K mg) : OkF P w K mg base (L2.CX P w) (4 + 1) (ma K (ga K "Row") "take") ["self", "is_right"] (spTake K) := by
  refine OkF.mkX T.d_Row_take sc_Row_take (fun _ _ _ _ _ _ us hl => match us, hl with | [_, _], _ => rfl) (fun vs H Q E h => ?_) (fun cdv A outs s H vs Q E hr h => ?_)
  · obtain ⟨_, _, _, _, _, _, _, rfl, _⟩ := h; rfl
  obtain ⟨F, r, n, wl, ws, p, b, rfl, R, q1, q2⟩ := h
  refine ⟨_, (pss_cons (ps_expr (pe_m (pv 0) T.c_Row T.m_check (ok_Row_check T) hr (by omega) (passes_call (takes_of rfl rfl rfl rfl) (fun _ _ _ _ h => h)) (pa_cons (pe_and (pe_not (pe_m0 (pv 0) T.c_Row T.m_is_over (ok_Row_is_over T) hr (by omega) (E := E0) passN)) (pe_one (pv 1))) pa_nil)))
      (pss_cons (ps_fldaug (pv 0) pe_int in_add)
      (pss_one (ps_ret (pe_ix ix_list (pe_f T.c_Row T.n_words (pv 0)) (pe_op op_sub (pe_f T.c_Row T.n_place (pv 0)) pe_int) (fun _ _ => rfl)))))), ?_⟩
  obtain ⟨dx, hR⟩ := R.row
  refine ⟨_, rfl, r, dx, _, rfl, hR, rfl, ?_⟩
  refine EvA.v (ea_cons (ev_andV (ev_notV (ev_m (ev_var rfl) hR rfl ea_nil fun H1 e1 Q q _ => ⟨r, n, ws, p, rfl, R.at_.mono e1, q⟩)) fun _ => ev_var rfl) ea_nil) fun H2 e2 => ?_
  refine ⟨F, r, n, wl, ws, p, _, rfl, R.mono e2, fun hb H3 e3 => ?_, q2⟩
  have hR3 := (e2.trans e3) r _ hR
  refine ⟨_, rfl, r, _, dx, _, _, rfl, hR3, T.c_Row, T.n_place, rfl, _, _, rfl, rfl, dx, _, hR3, by show 3 < 1000; decide, ?_⟩
  have hlt : p < ws.length := by
    rcases Nat.lt_or_ge p ws.length with h | h
    · exact h
    · have e : p = ws.length := Nat.le_antisymm R.le h
      rw [decide_eq_true e] at hb
      cases hb
  obtain ⟨g1, dx', g2⟩ := row_place (K := K) (dx := dx) (n := n) (wl := wl) (p := p) R.fr ((R.ex.trans e2).trans e3)
  refine s_ret (ev_op (ev_pf (ev_var rfl) g2 rfl) (ev_op (ev_pf (ev_var rfl) g2 rfl) ev_c rv_I0) (rv_ixL (sq_of (g1 wl _ R.wds)) (at_eq (at_str hlt) (by omega)))) fun H4 e4 => ?_
  exact q1 hb H4 (R.to_ (g1.trans e4) (RowAt.mono ⟨dx', g2⟩ e4) (by omega))
theorem sc_Row_take_name : FnScope ["self"] ["self"] (defScope sTakeN) := ⟨rfl, rfl, rfl, by decide +kernel, rfl, by decide +kernel, by decide +kernel⟩
theorem ok_Row_take_name (T : TX P K mg) : OkF P w K mg base (L2.CX P w) (5 + 1) (ma K (ga K "Row") "take_name") ["self"] (spTakeN K) := by
  refine OkF.mkX T.d_Row_take_name sc_Row_take_name (fun _ _ _ _ _ _ us hl => match us, hl with | [_], _ => rfl) (fun vs H Q E h => ?_) (fun cdv A outs s H vs Q E hr h => ?_)
  · obtain ⟨_, _, _, _, _, _, rfl, _⟩ := h; rfl
  obtain ⟨F, r, n, wl, ws, p, rfl, R, q1, q2⟩ := h
  refine ⟨_, (pss_one (ps_ret (pe_m (pv 0) T.c_Row T.m_take (ok_Row_take T) hr (by omega) (passes_call (takes_of rfl rfl rfl rfl) (fun _ _ _ _ h => h)) (pa_cons (pe_c (ok_is_free_name T) hr (by omega) T.g_is_free_name (E := E0) passN (pa_cons (pe_m0 (pv 0) T.c_Row T.m_peek (ok_Row_peek T) hr (by omega) (E := E0) passN) pa_nil)) pa_nil)))), ?_⟩
  obtain ⟨dx, hR⟩ := R.row
  refine ⟨_, rfl, r, dx, _, rfl, hR, rfl, ?_⟩
  refine EvA.v (ea_cons (ev_k (ea_cons (ev_m (ev_var rfl) hR rfl ea_nil fun H1 e1 Q q _ => ⟨r, n, ws, p, rfl, R.at_.mono e1, q⟩) ea_nil) fun H1 e1 Q q _ => ⟨_, rfl, wd_small R.sml, q⟩) ea_nil) fun H2 e2 => ?_
  have hb : (!decide (p = ws.length) && isFree (wd ws p)) = isFree (wd ws p) := by
    by_cases h : p = ws.length
    · rw [wd_out (Nat.le_of_eq h.symm)]
      simp [free_nil]
    · simp [h]
  refine ⟨F, r, n, wl, ws, p, _, rfl, R.mono e2, ?_, ?_⟩
  · rw [hb]
    exact q1
  · rw [hb]
    exact q2
theorem sc_Row_end : FnScope ["self"] ["self"] (defScope sEnd) := ⟨rfl, rfl, rfl, by decide +kernel, rfl, by decide +kernel, by decide +kernel⟩
theorem ok_Row_end (T : TX P K mg) : OkF P w K mg base (L2.CX P w) (4 + 1) (ma K (ga K "Row") "end") ["self"] (spEnd K) := by
  refine OkF.mkX T.d_Row_end sc_Row_end (fun _ _ _ _ _ _ us hl => match us, hl with | [_], _ => rfl) (fun vs H Q E h => ?_) (fun cdv A outs s H vs Q E hr h => ?_)
  · obtain ⟨_, _, _, _, _, _, rfl, _⟩ := h; rfl
  obtain ⟨F, r, n, wl, ws, p, rfl, R, q1, q2⟩ := h
  refine ⟨_, (pss_one (ps_expr (pe_m (pv 0) T.c_Row T.m_check (ok_Row_check T) hr (by omega) (passes_call (takes_of rfl rfl rfl rfl) (fun _ _ _ _ h => h)) (pa_cons (pe_m0 (pv 0) T.c_Row T.m_is_over (ok_Row_is_over T) hr (by omega) (E := E0) passN) pa_nil)))), ?_⟩
  obtain ⟨dx, hR⟩ := R.row
  refine ⟨_, rfl, r, dx, _, rfl, hR, rfl, ?_⟩
  refine EvA.v (ea_cons (ev_m (ev_var rfl) hR rfl ea_nil fun H1 e1 Q q _ => ⟨r, n, ws, p, rfl, R.at_.mono e1, q⟩) ea_nil) fun H2 e2 => ?_
  exact ⟨F, r, n, wl, ws, p, _, rfl, R.mono e2, fun hb H3 e3 => q1 (of_decide_eq_true hb) H3 (e2.trans e3), fun hb => q2 (of_decide_eq_false hb)⟩
end
end K56
set_option Elab.async false
set_option linter.all false
set_option maxRecDepth 100000
set_option maxHeartbeats 4000000
/-! K56, part P1: the readers' plain laws. -/
namespace K56
open PySem PySem.W PyProof.Rows L2 Evl He
theorem find_range {f : Nat → Bool} : ∀ (n s k : Nat), s ≤ k → k < s + n → (∀ i, s ≤ i → i < k → f i = false) → f k = true → (List.range' s n).find? f = some k
  | 0, s, k, h1, h2, _, _ => absurd h2 (by omega)
  | n + 1, s, k, h1, h2, h3, h4 => by
    rw [List.range'_succ, List.find?_cons]
    by_cases e : s = k
    · subst e
      rw [h4]
    · rw [h3 s (Nat.le_refl s) (by omega)]
      exact find_range n (s + 1) k (by omega) (by omega) (fun i a b => h3 i (by omega) b) h4
theorem find_range_none {f : Nat → Bool} : ∀ (n s : Nat), (∀ i, s ≤ i → i < s + n → f i = false) → (List.range' s n).find? f = none
  | 0, s, _ => rfl
  | n + 1, s, h => by
    rw [List.range'_succ, List.find?_cons, h s (Nat.le_refl s) (by omega)]
    exact find_range_none n (s + 1) fun i a b => h i (by omega) (by omega)
theorem rdFacts_bad {ws : List Str} {k : Nat} (h0 : wd ws 0 = "facts") (h1 : 1 ≤ k) (h2 : k < ws.length) (h3 : ∀ i, 1 ≤ i → i < k → factBad ws i = false) (h4 : factBad ws k = true) : rdFacts ws = .inl k := by
  unfold rdFacts
  rw [if_pos h0, find_range (ws.length - 1) 1 k h1 (by omega) h3 h4]
theorem rdFacts_ok {ws : List Str} (h0 : wd ws 0 = "facts") (h2 : 1 < ws.length) (h3 : ∀ i, 1 ≤ i → i < ws.length → factBad ws i = false) : rdFacts ws = .inr (ws.drop 1) := by
  unfold rdFacts
  rw [if_pos h0, find_range_none (ws.length - 1) 1 fun i a b => h3 i a (by omega)]
  exact if_pos h2
theorem rdFacts_one {ws : List Str} (h0 : wd ws 0 = "facts") (h2 : ws.length ≤ 1) : rdFacts ws = .inl 1 := by
  unfold rdFacts
  have : ws.length - 1 = 0 := by omega
  rw [if_pos h0, this]
  exact if_neg (by omega)
theorem rdFacts_no {ws : List Str} (h0 : wd ws 0 ≠ "facts") : rdFacts ws = .inl 0 := by
  unfold rdFacts
  rw [if_neg h0]
theorem take_snoc {ws : List Str} {j : Nat} (h : j < ws.length) : ws.take (j + 1) = ws.take j ++ [wd ws j] := by
  rw [List.take_succ, wd_at h]
  rfl
theorem wd_drop {ws : List Str} {k j : Nat} : wd (ws.drop k) j = wd ws (k + j) := by
  unfold wd
  rw [List.getElem?_drop]
theorem lastS_snoc {found : List Str} {z : Str} : lastS (found ++ [z]) = z := by
  unfold lastS
  rw [List.getLast?_append]
  rfl
theorem tk_b {p n : Nat} {b : Bool} (h : p = n → b = false) : (!decide (p = n) && b) = b := by
  by_cases e : p = n
  · rw [h e, Bool.and_false]
  · rw [decide_eq_false e]
    rfl
/-! ### what a side that was read is -/
def Asc (l : List Str) : Prop := ∀ i, i + 1 < l.length → ltS (wd l i) (wd l (i + 1)) = true
theorem wd_app {a b : List Str} {i : Nat} (h : i < a.length) : wd (a ++ b) i = wd a i := by
  unfold wd
  rw [List.getElem?_append_left h]
theorem wd_snoc {a : List Str} {z : Str} : wd (a ++ [z]) a.length = z := by
  unfold wd
  rw [List.getElem?_append_right (Nat.le_refl _), Nat.sub_self]
  rfl
theorem lastS_wd {a : List Str} (h : a ≠ []) : lastS a = wd a (a.length - 1) := by
  obtain ⟨xs, x, rfl⟩ : ∃ xs x, a = xs ++ [x] := ⟨a.dropLast, a.getLast h, (List.dropLast_concat_getLast h).symm⟩
  rw [lastS_snoc, List.length_append]
  exact wd_snoc.symm
theorem asc_snoc {l : List Str} {z : Str} (h : Asc l) (h2 : l ≠ [] → ltS (lastS l) z = true) : Asc (l ++ [z]) := fun i hi => by
  rw [List.length_append] at hi
  have hi2 : i + 1 ≤ l.length := by
    have : [z].length = 1 := rfl
    omega
  rw [wd_app (show i < l.length by omega)]
  rcases Nat.lt_or_ge (i + 1) l.length with c | c
  · rw [wd_app c]
    exact h i c
  · have e : i + 1 = l.length := by omega
    have hne : l ≠ [] := fun z => by rw [z] at e; cases e
    have := h2 hne
    rw [lastS_wd hne] at this
    rw [e, wd_snoc, show i = l.length - 1 by omega]
    exact this
structure SideOK (fs bar : List Str) (most : Nat) (fd : List Str) : Prop where
  mem : ∀ z ∈ fd, z ∈ fs ∧ z ∉ bar
  asc : Asc fd
  len : fd.length ≤ most
theorem sideOk_of {fs bar fd : List Str} {most : Nat} {z : Str} (h : sideOk fs bar most fd z = true) : z ∈ fs ∧ z ∉ bar ∧ fd.length < most ∧ (fd ≠ [] → ltS (lastS fd) z = true) := by
  unfold sideOk at h
  rw [Bool.and_eq_true, Bool.and_eq_true, Bool.and_eq_true, decide_eq_true_eq, decide_eq_true_eq] at h
  obtain ⟨h1, h2, h3, h4⟩ := h
  refine ⟨h1, by simpa using h3, h4, fun hne => ?_⟩
  rw [decide_eq_false hne] at h2
  simpa using h2
theorem sideGo_ok {fs bar : List Str} {most : Nat} : ∀ (r found : List Str) (k : Nat) (fd : List Str) (k' : Nat), SideOK fs bar most found → sideGo fs bar most r found k = .inr (fd, k') → SideOK fs bar most fd ∧ k ≤ k' ∧ k' ≤ k + r.length
  | [], found, k, fd, k', G, h => by
    unfold sideGo at h
    split at h
    · cases h
    · cases h
      exact ⟨G, Nat.le_refl _, Nat.le_add_right _ _⟩
  | z :: r, found, k, fd, k', G, h => by
    unfold sideGo at h
    split at h
    · cases h
      exact ⟨G, Nat.le_refl _, Nat.le_add_right _ _⟩
    · split at h
      · rename_i c
        obtain ⟨a1, a2, a3, a4⟩ := sideOk_of c
        obtain ⟨b1, b2, b3⟩ := sideGo_ok r (found ++ [z]) (k + 1) fd k' ⟨fun y hy => by
          rcases List.mem_append.mp hy with q | q
          · exact G.mem y q
          · rw [List.mem_singleton.mp q]
            exact ⟨a1, a2⟩, asc_snoc G.asc a4, by rw [List.length_append]; exact a3⟩ h
        exact ⟨b1, by omega, by rw [List.length_cons]; omega⟩
      · cases h
theorem side_nil {fs bar : List Str} {most : Nat} : SideOK fs bar most [] := ⟨fun _ h => (by cases h), fun i h => (by cases h), Nat.zero_le _⟩
theorem rdIf_ok {fs bar : List Str} {most : Nat} {key : Str} {ws fd : List Str} {k k' : Nat} (hk : k ≤ ws.length) (h : rdIf fs bar most key ws k = .inr (fd, k')) : SideOK fs bar most fd ∧ k ≤ k' ∧ k' ≤ ws.length := by
  unfold rdIf at h
  split at h
  · rename_i c
    obtain ⟨a, b, d⟩ := sideGo_ok _ _ _ _ _ side_nil h
    refine ⟨a, by omega, ?_⟩
    rw [List.length_drop] at d
    rcases Nat.lt_or_ge k ws.length with q | q
    · omega
    · exfalso
      rw [List.drop_eq_nil_of_le (by omega)] at h
      unfold sideGo at h
      rw [if_pos rfl] at h
      cases h
  · cases h
    exact ⟨side_nil, Nat.le_refl _, hk⟩
/-! ### lists side by side -/
def All2 {α : Type} (R : V → α → Prop) (vs : List V) (ks : List α) : Prop := vs.length = ks.length ∧ ∀ (i : Nat) v k, vs[i]? = some v → ks[i]? = some k → R v k
theorem All2.nil {α : Type} {R : V → α → Prop} : All2 R [] [] := ⟨rfl, fun i v k h => by simp at h⟩
theorem All2.snoc {α : Type} {R : V → α → Prop} {vs : List V} {ks : List α} {v : V} {k : α} (h : All2 R vs ks) (r : R v k) : All2 R (vs ++ [v]) (ks ++ [k]) := by
  refine ⟨by rw [List.length_append, List.length_append, h.1]; rfl, fun i x y hx hy => ?_⟩
  rcases Nat.lt_or_ge i vs.length with c | c
  · rw [List.getElem?_append_left c] at hx
    rw [List.getElem?_append_left (by rw [← h.1]; exact c)] at hy
    exact h.2 i x y hx hy
  · have hi : i < (vs ++ [v]).length := (List.getElem?_eq_some_iff.mp hx).1
    rw [List.length_append] at hi
    have e : i = vs.length := by
      have : [v].length = 1 := rfl
      omega
    subst e
    rw [List.getElem?_append_right (Nat.le_refl _), Nat.sub_self] at hx
    rw [List.getElem?_append_right (by rw [h.1]; exact Nat.le_refl _), h.1, Nat.sub_self] at hy
    cases hx
    cases hy
    exact r
theorem All2.mono {α : Type} {R S : V → α → Prop} {vs : List V} {ks : List α} (h : All2 R vs ks) (i : ∀ v k, R v k → S v k) : All2 S vs ks := ⟨h.1, fun n v k a b => i v k (h.2 n v k a b)⟩
theorem All2.get {α : Type} {R : V → α → Prop} {vs : List V} {ks : List α} {i : Nat} {k : α} (h : All2 R vs ks) (hk : ks[i]? = some k) : ∃ v, vs[i]? = some v ∧ R v k := by
  have hi : i < vs.length := by
    rw [h.1]
    exact (List.getElem?_eq_some_iff.mp hk).1
  exact ⟨vs[i], List.getElem?_eq_getElem hi, h.2 i _ k (List.getElem?_eq_getElem hi) hk⟩
theorem All2.getV {α : Type} {R : V → α → Prop} {vs : List V} {ks : List α} {i : Nat} {v : V} (h : All2 R vs ks) (hv : vs[i]? = some v) : ∃ k, ks[i]? = some k ∧ R v k := by
  have hi : i < ks.length := by
    rw [← h.1]
    exact (List.getElem?_eq_some_iff.mp hv).1
  exact ⟨ks[i], List.getElem?_eq_getElem hi, h.2 i v _ hv (List.getElem?_eq_getElem hi)⟩
theorem All2.drop {α : Type} {R : V → α → Prop} {vs : List V} {ks : List α} (h : All2 R vs ks) (n : Nat) : All2 R (vs.drop n) (ks.drop n) := by
  refine ⟨by rw [List.length_drop, List.length_drop, h.1], fun i v k a b => ?_⟩
  rw [List.getElem?_drop] at a b
  exact h.2 _ v k a b
theorem All2.take {α : Type} {R : V → α → Prop} {vs : List V} {ks : List α} (h : All2 R vs ks) (n : Nat) : All2 R (vs.take n) (ks.take n) := by
  refine ⟨by rw [List.length_take, List.length_take, h.1], fun i v k a b => ?_⟩
  rw [List.getElem?_take] at a b
  split at a
  · rename_i c
    rw [if_pos c] at b
    exact h.2 _ v k a b
  · cases a
theorem All2.last {α : Type} {R : V → α → Prop} {vs : List V} {ks : List α} {k : α} (h : All2 R vs ks) (hk : ks.getLast? = some k) : ∃ v, atI vs (-1) = some v ∧ R v k := by
  rw [List.getLast?_eq_getElem?] at hk
  obtain ⟨v, hv, r⟩ := h.get hk
  have hi := (List.getElem?_eq_some_iff.mp hk).1
  have hne : vs ≠ [] := fun e => by
    rw [e] at hv
    simp at hv
  obtain ⟨xs, x, rfl⟩ : ∃ xs x, vs = xs ++ [x] := ⟨vs.dropLast, vs.getLast hne, (List.dropLast_concat_getLast hne).symm⟩
  rw [← h.1, List.length_append, show xs.length + [x].length - 1 = xs.length from rfl, List.getElem?_append_right (Nat.le_refl _), Nat.sub_self] at hv
  cases hv
  exact ⟨_, atI_last _ _, r⟩
theorem range_get {α : Type} (l : List α) (d : α) : (List.range l.length).map (fun i => (l[i]?).getD d) = l := by
  apply List.ext_getElem?
  intro i
  rw [List.getElem?_map]
  rcases Nat.lt_or_ge i l.length with c | c
  · rw [List.getElem?_range c, List.getElem?_eq_getElem c]
    show some ((l[i]?).getD d) = _
    rw [List.getElem?_eq_getElem c]
    rfl
  · rw [List.getElem?_eq_none c, List.getElem?_eq_none (by rw [List.length_range]; exact c)]
    rfl
theorem given_filter {α : Type} (l : List α) (d : α) (p : α → Bool) (v : Nat → V) : (Evl.given l.length (fun i => p ((l[i]?).getD d)) v).length = (l.filter p).length := by
  unfold Evl.given
  rw [List.length_map]
  have h := congrArg (fun z => (z.filter p).length) (range_get l d)
  rw [← h]
  show _ = (List.filter p ((List.range l.length).map fun i => (l[i]?).getD d)).length
  rw [List.filter_map, List.length_map]
  rfl
theorem given_map {α : Type} (l : List α) (d : α) (g : α → V) : Evl.given l.length (fun _ => true) (fun i => g ((l[i]?).getD d)) = l.map g := by
  unfold Evl.given
  have h := congrArg (fun z => z.map g) (range_get l d)
  rw [← h]
  show _ = ((List.range l.length).map fun i => (l[i]?).getD d).map g
  rw [List.map_map, List.filter_eq_self.mpr fun _ _ => rfl]
  rfl
/-! ### markers -/
theorem marks_step {ws : List Str} {k : Nat} (h : wd ws k = ">") (hk : k < ws.length) : marks (ws.drop k) = marks (ws.drop (k + 1)) + 1 := by
  have e : ws.drop k = wd ws k :: ws.drop (k + 1) := by
    rw [List.drop_eq_getElem_cons hk]
    congr 1
    exact (Option.some.inj ((wd_at hk).symm.trans (List.getElem?_eq_getElem hk))).symm
  rw [e]
  show (if _ then _ else _) = _
  rw [if_pos h]
theorem marks_stop {ws : List Str} {k : Nat} (h : wd ws k ≠ ">") : marks (ws.drop k) = 0 := by
  rcases Nat.lt_or_ge k ws.length with c | c
  · have e : ws.drop k = wd ws k :: ws.drop (k + 1) := by
      rw [List.drop_eq_getElem_cons c]
      congr 1
      exact (Option.some.inj ((wd_at c).symm.trans (List.getElem?_eq_getElem c))).symm
    rw [e]
    show (if _ then _ else _) = _
    rw [if_neg h]
  · rw [List.drop_eq_nil_of_le c]
    rfl
def lastD (ks : List KR) : Nat := match ks.getLast? with
  | none => 0
  | some r => r.dp + 1
theorem deepest_eq (ks : List KR) : deepest ks = min 5 (lastD ks) := by
  unfold deepest lastD
  cases ks.getLast? with
  | none => rfl
  | some r => rfl
def rrOf (fs : List Str) (ks : List KR) (ws : List Str) : Sum Nat KR :=
  if ¬ (ks.length < 60 ∧ (wd ws 0 = ">" ∨ outer ks < 40)) then .inl 0 else rdRule fs (ks.map (·.nm)) (deepest ks) ws
end K56
set_option Elab.async false
set_option linter.all false
set_option maxRecDepth 100000
set_option maxHeartbeats 4000000
/-! K56, part D2: the reader of facts, of sides, of conditions, of rules. -/
namespace K56
open PySem PySem.W PyProof.Rows L2 Evl He
section
variable {P : Program} {w : World} {K : Frag} {mg : Str → Option Value} {base : Heap}
section
variable {F H : Hp} {r wl : Addr} {n : Int} {ws : List Str} {p i : Nat} {σ : L2.St} {E E' : XK} {Q : VK} {tc : TE} {b : Bool}
theorem ev_peek (R : RF K F H r n wl ws p) (hv : σ[i]? = some (some (.ref r))) : Ev (tM (ga K "Row") "peek" (spPeek K) E' (tVar i) tNil) σ H (.str (wd ws p)) := by
  obtain ⟨dx, hR⟩ := R.row
  exact ev_m (ev_var hv) hR rfl ea_nil fun H1 e1 Q q _ => ⟨r, n, ws, p, rfl, R.at_.mono e1, q⟩
theorem ev_over (R : RF K F H r n wl ws p) (hv : σ[i]? = some (some (.ref r))) : Ev (tM (ga K "Row") "is_over" (spOver K) E' (tVar i) tNil) σ H (.bl (decide (p = ws.length))) := by
  obtain ⟨dx, hR⟩ := R.row
  exact ev_m (ev_var hv) hR rfl ea_nil fun H1 e1 Q q _ => ⟨r, n, ws, p, rfl, R.at_.mono e1, q⟩
theorem ev_free {te : TE} {z : Str} (h : Ev te σ H (.str z)) (hz : z.length ≤ 30000) : Ev (tK spFree E' (tCons te tNil)) σ H (.bl (isFree z)) :=
  ev_k (ea_cons h ea_nil) fun H1 e1 Q q _ => ⟨z, rfl, hz, q⟩
theorem go_take (R : RF K F H r n wl ws p) (hv : σ[i]? = some (some (.ref r))) (hc : Ev tc σ H (.bl b)) (hb : p = ws.length → b = false) (k1 : b = true → ∀ H', RF K F H' r n wl ws (p + 1) → Q (.str (wd ws p)) H') (k2 : b = false → Rz K F n p E) :
    tM (ga K "Row") "take" (spTake K) E (tVar i) (tCons tc tNil) σ H Q := by
  obtain ⟨dx, hR⟩ := R.row
  refine ⟨_, hv, r, dx, _, rfl, hR, rfl, EvA.v (ea_cons hc ea_nil) fun H2 e2 => ?_⟩
  refine ⟨F, r, n, wl, ws, p, b, rfl, R.mono e2, ?_, ?_⟩
  · rw [tk_b hb]
    exact k1
  · rw [tk_b hb]
    exact k2
theorem go_takeN (R : RF K F H r n wl ws p) (hv : σ[i]? = some (some (.ref r))) (k1 : isFree (wd ws p) = true → ∀ H', RF K F H' r n wl ws (p + 1) → Q (.str (wd ws p)) H') (k2 : isFree (wd ws p) = false → Rz K F n p E) :
    tM (ga K "Row") "take_name" (spTakeN K) E (tVar i) tNil σ H Q := by
  obtain ⟨dx, hR⟩ := R.row
  exact ⟨_, hv, r, dx, _, rfl, hR, rfl, F, r, n, wl, ws, p, rfl, R, k1, k2⟩
theorem go_check (R : RF K F H r n wl ws p) (hv : σ[i]? = some (some (.ref r))) (hc : Ev tc σ H (.bl b)) (k1 : b = true → ∀ H', Ex H H' → Q .non H') (k2 : b = false → Rz K F n p E) :
    tM (ga K "Row") "check" (spCheck K) E (tVar i) (tCons tc tNil) σ H Q := by
  obtain ⟨dx, hR⟩ := R.row
  exact ⟨_, hv, r, dx, _, rfl, hR, rfl, EvA.v (ea_cons hc ea_nil) fun H2 e2 => ⟨F, r, n, wl, ws, p, b, rfl, R.mono e2, fun hb H3 e3 => k1 hb H3 (e2.trans e3), k2⟩⟩
theorem go_end (R : RF K F H r n wl ws p) (hv : σ[i]? = some (some (.ref r))) (k1 : p = ws.length → ∀ H', Ex H H' → Q .non H') (k2 : p ≠ ws.length → Rz K F n p E) :
    tM (ga K "Row") "end" (spEnd K) E (tVar i) tNil σ H Q := by
  obtain ⟨dx, hR⟩ := R.row
  exact ⟨_, hv, r, dx, _, rfl, hR, rfl, F, r, n, wl, ws, p, rfl, R, k1, k2⟩
theorem ne_emp {z : Str} (h : z ≠ "" := by decide) {ws : List Str} {p : Nat} : p = ws.length → decide (wd ws p = z) = false := fun e => by
  rw [wd_out (Nat.le_of_eq e.symm)]
  exact decide_eq_false fun q => h q.symm
end
theorem ex_grow {F H : Hp} {l : Addr} {o : HO} (e : Ex F H) (h : H l = some o) : Ex F (upd F l o) := fun a u ha => by
  by_cases z : a = l
  · subst z
    rw [upd_same, ← h]
    exact e _ u ha
  · rw [upd_ne z]
    exact ha
theorem RF.hold {F H : Hp} {r wl l : Addr} {n : Int} {ws : List Str} {p : Nat} {o : HO} (R : RF K F H r n wl ws p) (h : H l = some o) (ne : l ≠ r) : RF K (upd F l o) H r n wl ws p :=
  ⟨ex_grow R.ex h _ _ R.wds, R.len, R.sml, ex_upd R.ex h, by rw [upd_ne ne.symm]; exact R.fr, R.row, R.le⟩
theorem RF.ne {F H : Hp} {r wl l : Addr} {n : Int} {ws : List Str} {p : Nat} {xs : List V} (R : RF K F H r n wl ws p) (h : H l = some (.tup xs)) : l ≠ r := fun e => by
  obtain ⟨dx, z⟩ := R.row
  rw [← e, h] at z
  cases z
theorem RF.neL {F H : Hp} {r wl l : Addr} {n : Int} {ws : List Str} {p : Nat} {xs : List V} (R : RF K F H r n wl ws p) (h : H l = some (.lst xs)) : l ≠ r := fun e => by
  obtain ⟨dx, z⟩ := R.row
  rw [← e, h] at z
  cases z
theorem RF.nen {F H : Hp} {r wl l : Addr} {n : Int} {ws : List Str} {p : Nat} (R : RF K F H r n wl ws p) (h : H l = none) : l ≠ r := fun e => by
  obtain ⟨dx, z⟩ := R.row
  rw [← e, h] at z
  cases z
/-- an object that neither the frame nor the row is changes -/
theorem RF.mut {F H : Hp} {r wl l : Addr} {n : Int} {ws : List Str} {p : Nat} (R : RF K F H r n wl ws p) (fl : F l = none) (ne : l ≠ r) (o : HO) : RF K F (upd H l o) r n wl ws p :=
  ⟨R.wds, R.len, R.sml, R.ex.mut fl, R.fr, by
    obtain ⟨dx, z⟩ := R.row
    exact ⟨dx, by rw [upd_ne ne.symm]; exact z⟩, R.le⟩
/-- back from a frame that holds more -/
theorem RF.un {F G H : Hp} {r wl : Addr} {n : Int} {ws : List Str} {p : Nat} (R : RF K G H r n wl ws p) (e : Ex F G) (hw : SL F wl ws) (fr : F r = none) : RF K F H r n wl ws p := ⟨hw, R.len, R.sml, e.trans R.ex, fr, R.row, R.le⟩
def spRFacts (K : Frag) : Sp := fun vs H Q E => ∃ (F : Hp) (r : Addr) (n : Int) (wl : Addr) (ws : List Str), vs = [.ref r] ∧ RF K F H r n wl ws 0 ∧
  (∀ fs, rdFacts ws = .inr fs → ∀ a H', Ex F H' → ST H' a fs → Q (.ref a) H') ∧ (∀ k : Nat, rdFacts ws = .inl k → Rz K F n k E)
theorem sc_read_facts : FnScope ["row", "found"] ["row"] (defScope sRFacts) := ⟨rfl, rfl, rfl, by decide +kernel, rfl, by decide +kernel, by decide +kernel⟩
theorem ok_read_facts (T : TX P K mg) : OkF P w K mg base (L2.CX P w) (6 + 1) (ga K "read_facts") ["row"] (spRFacts K) := by
  refine OkF.mkX T.d_read_facts sc_read_facts (fun _ _ _ _ _ _ us hl => match us, hl with | [_], _ => rfl) (fun vs H Q E h => ?_) (fun cdv A outs s H vs Q E hr h => ?_)
  · obtain ⟨_, _, _, _, _, rfl, _⟩ := h; rfl
  obtain ⟨F, r, n, wl, ws, rfl, R, q1, q2⟩ := h
  refine ⟨_, (pss_cons (ps_expr (pe_m (pv 0) T.c_Row T.m_take (ok_Row_take T) hr (by omega) (passes_call (takes_of rfl rfl rfl rfl) (fun _ _ _ _ h => h)) (pa_cons (pe_cmpR op_eq (pe_m0 (pv 0) T.c_Row T.m_peek (ok_Row_peek T) hr (by omega) (E := E0) passN) pe_str (nomark _)) pa_nil)))
      (pss_cons (ps_set (i := 1) sc_read_facts.nd rfl (Or.inl rfl) (pe_lst (pa_cons (pe_m0 (pv 0) T.c_Row T.m_take_name (ok_Row_take_name T) hr (by omega) (passes_call (takes_of rfl rfl rfl rfl) (fun _ _ _ _ h => h))) pa_nil)))
      (pss_cons (ps_while (passes_of rfl) (pt_not (pt_val (pe_m0 (pv 0) T.c_Row T.m_is_over (ok_Row_is_over T) hr (by omega) (E := E0) passN))) (pss_one (ps_expr (pe_bm PySem.F.plainAttrs_list PySem.F.slot_list_append PySem.F.type_list_append mt_append (pv 1) (pa_cons (pe_m (pv 0) T.c_Row T.m_take (ok_Row_take T) hr (by omega) (passes_call (takes_of rfl rfl rfl rfl) (fun _ _ _ _ h => h)) (pa_cons (pe_and (pe_c (ok_is_free_name T) hr (by omega) T.g_is_free_name (E := E0) passN (pa_cons (pe_m0 (pv 0) T.c_Row T.m_peek (ok_Row_peek T) hr (by omega) (E := E0) passN) pa_nil)) (pe_and (pe_cmpR op_gt_str (pe_m0 (pv 0) T.c_Row T.m_peek (ok_Row_peek T) hr (by omega) (E := E0) passN) (pe_ix ix_list (pv 1) (pe_un un_neg pe_int) (fun _ _ => rfl)) (nomark _)) (pe_one (pe_cmpR op_lt (pe_callB call_len_seq (by rfl) T.b_len PySem.boot_len (pa_cons (pv 1) pa_nil)) (pe_glob (v := .int 60) (by rfl) T.i_MAX_FACTS.choose_spec ⟨_, rfl⟩) (nomark _))))) pa_nil)) pa_nil)))))
      (pss_one (ps_ret (pe_callTy call_tuple_of (by rfl) T.b_tuple (by decide +kernel) (pa_cons (pv 1) pa_nil))))))), ?_⟩
  refine go_take R rfl (ev_op (ev_peek R rfl) ev_c rv_eqs) (ne_emp) (fun hb H1 R1 => ?_) (fun hb => q2 0 (rdFacts_no (of_decide_eq_false hb)))
  have h0 : wd ws 0 = "facts" := of_decide_eq_true hb
  refine go_takeN R1 rfl (fun hf H2 R2 => ?_) (fun hf => q2 1 ?_)
  rotate_left
  · rcases Nat.lt_or_ge 1 ws.length with h | h
    · exact rdFacts_bad h0 (Nat.le_refl 1) h (fun i a b => absurd a (by omega)) (by unfold factBad; rw [show wd ws 1 = wd ws (0 + 1) from rfl, hf]; rfl)
    · exact rdFacts_one h0 h
  refine ⟨by show 1 ≤ sizeLine; decide, fun l hl => ?_⟩
  have hlt : 1 < ws.length := by
    rcases Nat.lt_or_ge 1 ws.length with h | h
    · exact h
    · rw [wd_out h, free_nil] at hf
      cases hf
  have fl : F l = none := fresh_back R2.ex hl
  have nlr : l ≠ r := by
    obtain ⟨dx, z⟩ := R2.row
    exact (ne_of_none z hl).symm
  refine q_while (fun m σ' H' => ∃ j, m = ws.length - (j + 1) ∧ 1 ≤ j ∧ j + 1 ≤ ws.length ∧ σ' = [some (.ref r), some (.ref l)] ∧ RF K F H' r n wl ws (j + 1) ∧ SL H' l ((ws.drop 1).take j) ∧ ∀ i, 1 ≤ i → i < j + 1 → factBad ws i = false)
    (ws.length - (1 + 1)) ⟨1, rfl, Nat.le_refl 1, hlt, rfl, ?_, ?_, fun i a b => ?_⟩ ?_
  · exact ⟨R2.wds, R2.len, R2.sml, R2.ex.mut fl, R2.fr, by
      obtain ⟨dx, z⟩ := R2.row
      exact ⟨dx, by rw [upd_ne nlr.symm]; exact z⟩, R2.le⟩
  · show upd H2 l _ l = _
    rw [upd_same, take_snoc (by rw [List.length_drop]; omega), wd_drop]
    rfl
  · obtain rfl : i = 1 := by omega
    unfold factBad
    rw [show wd ws 1 = wd ws (0 + 1) from rfl, hf]
    rfl
  rintro m σ' H' ⟨j, rfl, hj1, hj2, rfl, Rj, hL, hg⟩
  refine ⟨_, et_not (et_B (ev_over Rj rfl)), fun hb H3 e3 => ?_, fun hb H3 e3 => ?_⟩
  · have hj3 : j + 1 < ws.length := by
      have : ¬ j + 1 = ws.length := by simpa using hb
      omega
    refine ⟨fun σ2 H2 => ∃ j', j' = j + 1 ∧ j' + 1 ≤ ws.length ∧ σ2 = [some (.ref r), some (.ref l)] ∧ RF K F H2 r n wl ws (j' + 1) ∧ SL H2 l ((ws.drop 1).take j') ∧ ∀ i, 1 ≤ i → i < j' + 1 → factBad ws i = false, ?_, ?_⟩
    · rintro σ2 H2 ⟨j', rfl, a, b, c, d, e⟩
      exact ⟨_, by omega, j + 1, rfl, by omega, a, b, c, d, e⟩
    have R3 := Rj.mono e3
    have hL3 : SL H3 l ((ws.drop 1).take j) := e3 l _ hL
    have hlen : ((ws.drop 1).take j).length = j := by rw [List.length_take, List.length_drop]; omega
    have hne : (ws.drop 1).take j ≠ [] := fun z => by rw [z] at hlen; simp at hlen; omega
    refine ⟨_, rfl, .inl ⟨rfl, _, sq_of hL3⟩, ?_⟩
    have hlast : lastS ((ws.drop 1).take j) = wd ws j := by
      obtain ⟨j0, rfl⟩ : ∃ j0, j = j0 + 1 := ⟨j - 1, by omega⟩
      rw [take_snoc (by rw [List.length_drop]; omega), lastS_snoc, wd_drop, Nat.add_comm]
    refine go_take (R3.grow fl hL3 nlr) rfl (ev_andV (ev_free (ev_peek R3 rfl) (wd_small R3.sml)) fun _ => ev_andV (ev_op (ev_peek R3 rfl) (ev_op (ev_var rfl) (ev_un ev_c ru_neg) (rv_ixL (sq_of hL3) (at_lastS hne))) rv_gt) fun _ => ev_op (ev_len (ev_var rfl) (sq_of hL3)) ev_c rv_I0) (fun e => absurd e (by omega)) (fun hb4 H4 R4 => ?_) (fun hb4 => ?_)
    · have hL4 : H4 l = some (.lst (((ws.drop 1).take j).map V.str)) := R4.ex l _ upd_same
      rw [Bool.and_eq_true, Bool.and_eq_true] at hb4
      refine ⟨l, _, _, rfl, rfl, hL4, sz_lt (by rw [List.length_map, hlen]; have := R3.len; omega), j + 1, rfl, by omega, rfl, ?_, ?_, fun i a b => ?_⟩
      · exact ⟨R3.wds, R3.len, R3.sml, (ex_back R4.ex fl).mut fl, R3.fr, by
          obtain ⟨dx, z⟩ := R4.row
          exact ⟨dx, by rw [upd_ne nlr.symm]; exact z⟩, R4.le⟩
      · show upd H4 l _ l = _
        rw [upd_same, take_snoc (by rw [List.length_drop]; omega), wd_drop, List.map_append, Nat.add_comm 1 j]
        rfl
      · rcases Nat.lt_or_ge i (j + 1) with c | c
        · exact hg i a c
        · obtain rfl : i = j + 1 := by omega
          unfold factBad
          rw [hb4.1, hlast] at *
          have h60 : ¬ 60 < j + 1 := by
            have := of_decide_eq_true hb4.2.2
            rw [List.length_map, hlen] at this
            omega
          rw [show j + 1 - 1 = j from rfl, hb4.2.1, decide_eq_false h60]
          simp
    · refine (q2 (j + 1) (rdFacts_bad h0 (by omega) hj3 hg ?_)).mono (Ex.new fl)
      unfold factBad
      rw [hlast, List.length_map, hlen] at hb4
      rw [show j + 1 - 1 = j from rfl]
      cases h1 : isFree (wd ws (j + 1)) with
      | false => rfl
      | true =>
        rw [h1] at hb4
        cases h2 : ltS (wd ws j) (wd ws (j + 1)) with
        | false => rw [decide_eq_true (show 1 < j + 1 by omega)]; rfl
        | true =>
          rw [h2] at hb4
          have : ¬ (j : Int) < 60 := of_decide_eq_false (by simpa using hb4)
          rw [decide_eq_true (show 60 < j + 1 by omega)]
          simp
  · have he : j + 1 = ws.length := by simpa using hb
    have hall : (ws.drop 1).take j = ws.drop 1 := List.take_of_length_le (by rw [List.length_drop]; omega)
    rw [hall] at hL
    refine ⟨_, rfl, l, _, rfl, .inl ⟨sq_of (e3 l _ hL), fun t ht => ?_⟩⟩
    exact q1 _ (rdFacts_ok h0 hlt fun i a b => hg i a (by omega)) t _ ((Rj.ex.trans e3).trans (Ex.new ht)) upd_same
def spRSide (K : Frag) : Sp := fun vs H Q E => ∃ (F : Hp) (r : Addr) (n : Int) (wl : Addr) (ws : List Str) (p : Nat) (fa ba : Addr) (fs bs : List Str) (most : Nat), vs = [.ref r, .ref fa, .ref ba, .int most] ∧ RF K F H r n wl ws p ∧
  ST F fa fs ∧ ST F ba bs ∧ (∀ z ∈ fs, isFree z = true) ∧ (∀ fd k, sideGo fs bs most (ws.drop p) [] p = .inr (fd, k) → ∀ a H', RF K F H' r n wl ws k → ST H' a fd → Q (.ref a) H') ∧
  (∀ k : Nat, sideGo fs bs most (ws.drop p) [] p = .inl k → Rz K F n k E)
theorem drop_wd {ws : List Str} {k : Nat} (h : k < ws.length) : ws.drop k = wd ws k :: ws.drop (k + 1) := by
  rw [List.drop_eq_getElem_cons h]
  congr 1
  exact (Option.some.inj ((wd_at h).symm.trans (List.getElem?_eq_getElem h))).symm
theorem not_in_free {fs : List Str} (h : ∀ z ∈ fs, isFree z = true) : decide (("" : Str) ∈ fs) = false := decide_eq_false fun z => by
  have := h _ z
  rw [free_nil] at this
  cases this
theorem map_nil_dec {fd : List Str} : decide (fd.map V.str = []) = decide (fd = []) := by cases fd <;> rfl
theorem sc_read_side : FnScope ["row", "facts", "barred", "most", "found", "word", "is_late"] ["row", "facts", "barred", "most"] (defScope sRSide) := ⟨rfl, rfl, rfl, by decide +kernel, rfl, by decide +kernel, by decide +kernel⟩
theorem ok_read_side (T : TX P K mg) : OkF P w K mg base (L2.CX P w) (6 + 1) (ga K "read_side") ["row", "facts", "barred", "most"] (spRSide K) := by
  refine OkF.mkX T.d_read_side sc_read_side (fun _ _ _ _ _ _ us hl => match us, hl with | [_, _, _, _], _ => rfl) (fun vs H Q E h => ?_) (fun cdv A outs s H vs Q E hr h => ?_)
  · obtain ⟨_, _, _, _, _, _, _, _, _, _, _, rfl, _⟩ := h; rfl
  obtain ⟨F, r, n, wl, ws, p, fa, ba, fs, bs, most, rfl, R, hF, hB, hfree, q1, q2⟩ := h
  refine ⟨_, (pss_cons (ps_set (i := 4) sc_read_side.nd rfl (Or.inl rfl) (pe_lst pa_nil))
      (pss_cons (ps_while (passes_of rfl) (pw_or (pt_cmpR (op_eqE (hu_of hr)) (pv 4) (pe_lst pa_nil) (nomark _)) (pw_or1 (pw_and (pt_not (pt_val (pe_m0 (pv 0) T.c_Row T.m_is_over (ok_Row_is_over T) hr (by omega) (E := E0) passN))) (pw_and1 (pt_cmpR op_ne (pe_m0 (pv 0) T.c_Row T.m_peek (ok_Row_peek T) hr (by omega) (E := E0) passN) pe_str (nomark _)))).pt)).pt (pss_cons (ps_set (i := 5) sc_read_side.nd rfl (Or.inl rfl) (pe_m0 (pv 0) T.c_Row T.m_peek (ok_Row_peek T) hr (by omega) (E := E0) passN))
      (pss_cons (ps_set (i := 6) sc_read_side.nd rfl (Or.inl rfl) (pe_and (pe_cmpR (op_neE (hu_of hr)) (pv 4) (pe_lst pa_nil) (nomark _)) (pe_one (pe_cmpR op_le_str (pv 5) (pe_ix ix_list (pv 4) (pe_un un_neg pe_int) (fun _ _ => rfl)) (nomark _)))))
      (pss_one (ps_expr (pe_bm PySem.F.plainAttrs_list PySem.F.slot_list_append PySem.F.type_list_append mt_append (pv 4) (pa_cons (pe_m (pv 0) T.c_Row T.m_take (ok_Row_take T) hr (by omega) (passes_call (takes_of rfl rfl rfl rfl) (fun _ _ _ _ h => h)) (pa_cons (pe_and (pe_cmpR op_in_seq (pv 5) (pv 1) rfl) (pe_and (pe_not (pv 6)) (pe_and (pe_cmpR op_notIn_seq (pv 5) (pv 2) rfl) (pe_one (pe_cmpR op_lt (pe_callB call_len_seq (by rfl) T.b_len PySem.boot_len (pa_cons (pv 4) pa_nil)) (pv 3) (nomark _)))))) pa_nil)) pa_nil)))))))
      (pss_one (ps_ret (pe_callTy call_tuple_of (by rfl) T.b_tuple (by decide +kernel) (pa_cons (pv 4) pa_nil)))))), ?_⟩
  refine q_asgL el_nil fun l H0 hl e0 hL0 => ?_
  have R0 := R.mono e0
  have fl : F l = none := fresh_back R.ex hl
  have nlr : l ≠ r := R.nen hl
  refine q_while (fun m σ' H' => ∃ fd x5 x6, m = ws.length - (p + fd.length) ∧ σ' = [some (.ref r), some (.ref fa), some (.ref ba), some (.int most), some (.ref l), x5, x6] ∧ RF K F H' r n wl ws (p + fd.length) ∧ SL H' l fd ∧
    sideGo fs bs most (ws.drop p) [] p = sideGo fs bs most (ws.drop (p + fd.length)) fd (p + fd.length))
    (ws.length - (p + 0)) ⟨[], none, none, rfl, rfl, R0, hL0, rfl⟩ ?_
  rintro m σ' H' ⟨fd, x5, x6, rfl, rfl, R1, hL1, hg⟩
  rw [hg] at q1 q2
  refine ⟨_, et_or (et_test (ev_eqE (ev_var rfl) (sq_of hL1) el_nil)) fun _ => et_and (et_not (et_B (ev_over R1 rfl))) fun _ => et_test (ev_op (ev_peek R1 rfl) ev_c rv_nes), fun hb H3 e3 => ?_, fun hb H3 e3 => ?_⟩
  · refine ⟨fun σ2 H2 => ∃ fd' x5 x6, fd'.length = fd.length + 1 ∧ σ2 = [some (.ref r), some (.ref fa), some (.ref ba), some (.int most), some (.ref l), x5, x6] ∧ RF K F H2 r n wl ws (p + fd'.length) ∧ SL H2 l fd' ∧
      sideGo fs bs most (ws.drop p) [] p = sideGo fs bs most (ws.drop (p + fd'.length)) fd' (p + fd'.length), ?_, ?_⟩
    · rintro σ2 H2 ⟨fd', x5, x6, a, b, c, d, e⟩
      exact ⟨_, by have := c.le; omega, fd', x5, x6, rfl, b, c, d, e⟩
    have R3 := R1.mono e3
    have hL3 : SL H3 l fd := e3 l _ hL1
    refine q_asg (ev_peek R3 rfl) fun H4 e4 => ?_
    have R4 := R3.mono e4
    have hL4 : SL H4 l fd := e4 l _ hL3
    refine q_asg (v := .bl (!decide (fd = []) && !(ltS (lastS fd) (wd ws (p + fd.length))))) (ev_andV (ev_is (ev_neE (ev_var rfl) (sq_of hL4) el_nil) (by rw [map_nil_dec])) fun hne => ev_op (ev_var rfl) (ev_op (ev_var rfl) (ev_un ev_c ru_neg) (rv_ixL (sq_of hL4) (at_lastS (by simpa using hne)))) rv_le) fun H5 e5 => ?_
    have R5 := R4.mono e5
    have hL5 : SL H5 l fd := e5 l _ hL4
    refine ⟨_, rfl, .inl ⟨rfl, _, sq_of hL5⟩, ?_⟩
    refine go_take (b := sideOk fs bs most fd (wd ws (p + fd.length))) (R5.hold hL5 nlr) rfl (ev_andV (ev_op (ev_var rfl) (ev_var rfl) (rv_inS (.inr (st_of (R5.ex fa _ hF))))) fun _ => ev_andV (ev_notV (ev_var rfl)) fun _ => ev_andV (ev_op (ev_var rfl) (ev_var rfl) (rv_niS (.inr (st_of (R5.ex ba _ hB))))) fun _ =>
      ev_is (ev_op (ev_len (ev_var rfl) (sq_of hL5)) (ev_var rfl) rv_I0) (by rw [List.length_map, show decide (((fd.length : Nat) : Int) < (most : Int)) = decide (fd.length < most) from by rw [Bool.eq_iff_iff, decide_eq_true_eq, decide_eq_true_eq]; omega])) (fun e => ?_) (fun hb4 H6 R6 => ?_) (fun hb4 => ?_)
    · unfold sideOk
      rw [wd_out (Nat.le_of_eq e.symm), not_in_free hfree]
      rfl
    · have hk : p + fd.length < ws.length := by have := R6.le; omega
      have hL6 : H6 l = some (.lst (fd.map V.str)) := R6.ex l _ upd_same
      refine ⟨l, _, _, rfl, rfl, hL6, sz_lt (by rw [List.length_map]; have := R5.le; have := R5.len; omega), fd ++ [wd ws (p + fd.length)], _, _, by rw [List.length_append]; rfl, rfl, ?_, ?_, ?_⟩
      · have := (R6.un (ex_grow R5.ex hL5) R5.wds R5.fr).mut fl nlr (.lst (fd.map V.str ++ [V.str (wd ws (p + fd.length))]))
        rw [List.length_append]
        exact this
      · show upd H6 l _ l = _
        rw [upd_same, List.map_append]
        rfl
      · rw [hg, drop_wd hk, List.length_append]
        show (if _ then _ else if _ then _ else _) = _
        rw [if_neg, if_pos hb4]
        · rfl
        · rintro ⟨h1, h2⟩
          rw [map_nil_dec, decide_eq_false h2, h1] at hb
          simp at hb
    · refine (q2 (p + fd.length) ?_).mono (ex_grow R5.ex hL5)
      rcases Nat.lt_or_ge (p + fd.length) ws.length with h | h
      · rw [drop_wd h]
        show (if _ then _ else if _ then _ else _) = _
        rw [if_neg, if_neg (by rw [hb4]; decide)]
        rintro ⟨h1, h2⟩
        rw [map_nil_dec, decide_eq_false h2, h1] at hb
        simp at hb
      · have he : p + fd.length = ws.length := by have := R5.le; omega
        rw [List.drop_eq_nil_of_le h]
        rw [map_nil_dec, decide_eq_true he] at hb
        show (if _ then _ else _) = _
        rw [if_pos (by simpa using hb)]
  · rw [map_nil_dec] at hb
    have hne : fd ≠ [] := fun e => by rw [decide_eq_true e] at hb; cases hb
    refine ⟨_, rfl, l, _, rfl, .inl ⟨sq_of (e3 l _ hL1), fun t ht => ?_⟩⟩
    have R3 := R1.mono e3
    refine q1 fd (p + fd.length) ?_ t _ (R3.mut (fresh_back R3.ex ht) (R3.nen ht) _) upd_same
    rcases Nat.lt_or_ge (p + fd.length) ws.length with h | h
    · rw [drop_wd h]
      show (if _ then _ else _) = _
      rw [if_pos]
      refine ⟨?_, hne⟩
      rw [decide_eq_false hne, decide_eq_false (show ¬ p + fd.length = ws.length by omega)] at hb
      simpa using hb
    · rw [List.drop_eq_nil_of_le h]
      show (if _ then _ else _) = _
      rw [if_neg hne]
end
end K56
set_option Elab.async false
set_option linter.all false
set_option maxRecDepth 100000
set_option maxHeartbeats 4000000
/-! K56, part B1: loops over enumerate and zip, targets that are tuples. -/
namespace K56
open PySem PySem.W PyProof.Rows L2 Evl He
section
variable {K : Frag} {σ : L2.St} {H : Hp} {D : Ends} {ta : TA} {tu tz : TS} {g : TG}
theorem g_two {i j : Nat} {T : Addr} {x y : V} {Q : L2.St → Hp → Prop} (h : H T = some (.tup [x, y])) (k : Q ((σ.set i (some x)).set j (some y)) H) : gTup K 2 (gCons (gName i) (gCons (gName j) gNil)) (.ref T) σ H Q :=
  ⟨T, _, rfl, st_of h, rfl, _, _, rfl, _, _, rfl, rfl, k⟩
theorem g_four {i j l m : Nat} {T : Addr} {x y z u : V} {Q : L2.St → Hp → Prop} (h : H T = some (.tup [x, y, z, u])) (k : Q ((((σ.set i (some x)).set j (some y)).set l (some z)).set m (some u)) H) :
    gTup K 4 (gCons (gName i) (gCons (gName j) (gCons (gName l) (gCons (gName m) gNil)))) (.ref T) σ H Q := ⟨T, _, rfl, st_of h, rfl, _, _, rfl, _, _, rfl, _, _, rfl, _, _, rfl, rfl, k⟩
theorem g_five {i j l m o : Nat} {T : Addr} {x y z u v : V} {Q : L2.St → Hp → Prop} (h : H T = some (.tup [x, y, z, u, v])) (k : Q (((((σ.set i (some x)).set j (some y)).set l (some z)).set m (some u)).set o (some v)) H) :
    gTup K 5 (gCons (gName i) (gCons (gName j) (gCons (gName l) (gCons (gName m) (gCons (gName o) gNil))))) (.ref T) σ H Q := ⟨T, _, rfl, st_of h, rfl, _, _, rfl, _, _, rfl, _, _, rfl, _, _, rfl, _, _, rfl, rfl, k⟩
/-- i, (a, b, c) -/
theorem g_nest {i j l m : Nat} {T U : Addr} {x y z u : V} {Q : L2.St → Hp → Prop} (h : H T = some (.tup [x, .ref U])) (h2 : H U = some (.tup [y, z, u])) (k : Q ((((σ.set i (some x)).set j (some y)).set l (some z)).set m (some u)) H) :
    gTup K 2 (gCons (gName i) (gCons (gTup K 3 (gCons (gName j) (gCons (gName l) (gCons (gName m) gNil)))) gNil)) (.ref T) σ H Q :=
  ⟨T, _, rfl, st_of h, rfl, _, _, rfl, _, _, rfl, U, _, rfl, st_of h2, rfl, _, _, rfl, _, _, rfl, _, _, rfl, rfl, rfl, k⟩
/-- for i, x in enumerate(a tuple) -/
theorem q_forET {xs : List V} (h : ∀ Q : List V → Hp → Prop, (∀ a H1, Ex H H1 → H1 a = some (.tup xs) → Q [.ref a] H1) → ta σ H Q) (Pv : Addr → Nat → L2.St → Hp → Prop) (h0 : ∀ a H1, Ex H H1 → H1 a = some (.tup xs) → Pv a 0 σ H1)
    (hl : ∀ a n σ' H', Pv a n σ' H' → H' a = some (.tup xs)) (hs : ∀ a n x σ' H' T H2, xs[n]? = some x → Pv a n σ' H' → Ex H' H2 → H2 T = some (.tup [.int (n : Nat), x]) → g (.ref T) σ' H2 fun σ2 H3 => tu { D with nx := Pv a (n + 1), ct := Pv a (n + 1), bk := tz D } σ2 H3)
    (hd : ∀ a σ' H', Pv a xs.length σ' H' → tz D σ' H') : tSeq (tFor (iEnumT K ta) g tu) tz D σ H :=
  h _ fun a H1 e1 ha => ⟨a, xs, rfl, st_of ha, for_enumT (D := { D with nx := tz D }) (Pv a) (h0 a H1 e1 ha) (fun i σ' H' _ p => st_of (hl a i σ' H' p)) (fun i x T σ' H' hx p hT => hs a i x σ' H' T _ hx p (Ex.new hT) upd_same) (hd a)⟩
theorem s_forET {xs : List V} (h : ∀ Q : List V → Hp → Prop, (∀ a H1, Ex H H1 → H1 a = some (.tup xs) → Q [.ref a] H1) → ta σ H Q) (Pv : Addr → Nat → L2.St → Hp → Prop) (h0 : ∀ a H1, Ex H H1 → H1 a = some (.tup xs) → Pv a 0 σ H1)
    (hl : ∀ a n σ' H', Pv a n σ' H' → H' a = some (.tup xs)) (hs : ∀ a n x σ' H' T H2, xs[n]? = some x → Pv a n σ' H' → Ex H' H2 → H2 T = some (.tup [.int (n : Nat), x]) → g (.ref T) σ' H2 fun σ2 H3 => tu { D with nx := Pv a (n + 1), ct := Pv a (n + 1), bk := D.nx } σ2 H3)
    (hd : ∀ a σ' H', Pv a xs.length σ' H' → D.nx σ' H') : tFor (iEnumT K ta) g tu D σ H :=
  h _ fun a H1 e1 ha => ⟨a, xs, rfl, st_of ha, for_enumT (Pv a) (h0 a H1 e1 ha) (fun i σ' H' _ p => st_of (hl a i σ' H' p)) (fun i x T σ' H' hx p hT => hs a i x σ' H' T _ hx p (Ex.new hT) upd_same) (hd a)⟩
/-- for i, x in enumerate(a list) -/
theorem q_forEL {xs : List V} {a : Addr} (h : EvA ta σ H [.ref a]) (ha : H a = some (.lst xs)) (Pv : Nat → L2.St → Hp → Prop) (h0 : ∀ H1, Ex H H1 → Pv 0 σ H1)
    (hl : ∀ n σ' H', Pv n σ' H' → H' a = some (.lst xs)) (hs : ∀ n x σ' H' T H2, xs[n]? = some x → Pv n σ' H' → Ex H' H2 → H2 T = some (.tup [.int (n : Nat), x]) → g (.ref T) σ' H2 fun σ2 H3 => tu { D with nx := Pv (n + 1), ct := Pv (n + 1), bk := tz D } σ2 H3)
    (hd : ∀ σ' H', Pv xs.length σ' H' → tz D σ' H') : tSeq (tFor (iEnum K ta) g tu) tz D σ H :=
  EvA.v h fun H1 e1 => ⟨a, xs, rfl, sq_of (e1 a _ ha), for_enumL (D := { D with nx := tz D }) Pv (h0 H1 e1) (fun i σ' H' _ p => sq_of (hl i σ' H' p)) (fun i x T σ' H' hx p hT => hs i x σ' H' T _ hx p (Ex.new hT) upd_same) hd⟩
theorem s_forEL {xs : List V} {a : Addr} (h : EvA ta σ H [.ref a]) (ha : H a = some (.lst xs)) (Pv : Nat → L2.St → Hp → Prop) (h0 : ∀ H1, Ex H H1 → Pv 0 σ H1)
    (hl : ∀ n σ' H', Pv n σ' H' → H' a = some (.lst xs)) (hs : ∀ n x σ' H' T H2, xs[n]? = some x → Pv n σ' H' → Ex H' H2 → H2 T = some (.tup [.int (n : Nat), x]) → g (.ref T) σ' H2 fun σ2 H3 => tu { D with nx := Pv (n + 1), ct := Pv (n + 1), bk := D.nx } σ2 H3)
    (hd : ∀ σ' H', Pv xs.length σ' H' → D.nx σ' H') : tFor (iEnum K ta) g tu D σ H :=
  EvA.v h fun H1 e1 => ⟨a, xs, rfl, sq_of (e1 a _ ha), for_enumL Pv (h0 H1 e1) (fun i σ' H' _ p => sq_of (hl i σ' H' p)) (fun i x T σ' H' hx p hT => hs i x σ' H' T _ hx p (Ex.new hT) upd_same) hd⟩
end
end K56
set_option Elab.async false
set_option linter.all false
set_option maxRecDepth 100000
set_option maxHeartbeats 4000000
/-! K56, part D3: conditions; the reader of a condition, of a rule. -/
namespace K56
open PySem PySem.W PyProof.Rows L2 Evl He
structure CondOK (h f : List Str) : Prop where
  nmH : ∀ z ∈ h, isName z = true
  nmF : ∀ z ∈ f, isName z = true
  asH : ∀ i, i + 1 < h.length → ltS (wd h i) (wd h (i + 1)) = true
  asF : ∀ i, i + 1 < f.length → ltS (wd f i) (wd f (i + 1)) = true
  len : h.length + f.length ≤ 8
  dis : ∀ z ∈ f, z ∉ h
theorem name_le {z : Str} (h : isName z = true) : z.length ≤ 8 := by
  unfold isName at h
  rw [Bool.and_eq_true, Bool.and_eq_true, decide_eq_true_eq, decide_eq_true_eq] at h
  exact h.1.2
section
variable {P : Program} {w : World} {K : Frag} {mg : Str → Option Value} {base : Heap}
def CondAt (K : Frag) (H : Hp) (c : Addr) (h f : List Str) : Prop := ∃ dx a b, H c = some (.ins (ga K "Condition") dx [("wanted", .ref a), ("barred", .ref b)]) ∧ ST H a h ∧ ST H b f
theorem CondAt.mono {H H' : Hp} {c : Addr} {h f : List Str} (C : CondAt K H c h f) (e : Ex H H') : CondAt K H' c h f := by
  obtain ⟨dx, a, b, h1, h2, h3⟩ := C
  exact ⟨dx, a, b, e c _ h1, e a _ h2, e b _ h3⟩
def spCondI (K : Frag) : Sp := fun vs H Q _ => ∃ (x ha fa dx : Addr) (h f : List Str) (F : Hp), vs = [.ref x, .ref ha, .ref fa] ∧ H x = some (.ins (ga K "Condition") dx []) ∧ Ex F H ∧ F x = none ∧ ST F ha h ∧ ST F fa f ∧ CondOK h f ∧
  ∀ H', Ex F H' → CondAt K H' x h f → Q .non H'
theorem ev_name {te : TE} {z : Str} {σ : L2.St} {H : Hp} {E' : XK} (h : Ev te σ H (.str z)) (hz : z.length ≤ 30000) : Ev (tK spIsName E' (tCons te tNil)) σ H (.bl (isName z)) :=
  ev_k (ea_cons h ea_nil) fun H1 e1 Q q _ => ⟨z, rfl, hz, q⟩
theorem ev_lenT {p : Addr} {xs : List V} {ta : TE} {σ : L2.St} {H : Hp} (ha : Ev ta σ H (.ref p)) (h : SqT K H p xs) : Ev (tCB (rLenS K) (tCons ta tNil)) σ H (.int (xs.length : Int)) := fun H1 e Q q =>
  ha H1 e _ fun H2 e2 => ⟨p, xs, rfl, Or.inr (ex_t (e.trans e2) h), q H2 e2⟩
theorem sc_Condition_init : FnScope ["self", "holding", "failing", "part", "names", "index", "name", "is_late"] ["self", "holding", "failing"] (defScope sCondI) := ⟨rfl, rfl, rfl, by decide +kernel, rfl, by decide +kernel, by decide +kernel⟩
theorem ok_Condition_init (T : TX P K mg) : OkF P w K mg base CX0 (1 + 1) (ma K (ga K "Condition") "__init__") ["self", "holding", "failing"] (spCondI K) := by
  refine OkF.mk0 T.d_Condition_init sc_Condition_init (fun _ _ _ _ _ _ us hl => match us, hl with | [_, _, _], _ => rfl) (fun vs H Q E h => ?_) (fun cdv A outs s H vs Q E hr h => ?_)
  · obtain ⟨_, _, _, _, _, _, _, rfl, _⟩ := h; rfl
  obtain ⟨x, ha, fa, dx, h, f, F, rfl, hx, eF, fx, hA, hB, C, q⟩ := h
  refine ⟨_, (pss_cons (ps_for PassesOwn.never rfl (pi_enumT (by rfl) T.b_enumerate (pa_cons (pe_tup (pa_cons (pv 1) (pa_cons (pv 2) pa_nil))) pa_nil)) (pg_tup rfl (pgs_cons (pg_name (i := 3) sc_Condition_init.nd rfl (Or.inl rfl)) (pgs_cons (pg_name (i := 4) sc_Condition_init.nd rfl (Or.inl rfl)) pgs_nil))) (pss_one (ps_for PassesOwn.never rfl (pi_enumT (by rfl) T.b_enumerate (pa_cons (pv 4) pa_nil)) (pg_tup rfl (pgs_cons (pg_name (i := 5) sc_Condition_init.nd rfl (Or.inl rfl)) (pgs_cons (pg_name (i := 6) sc_Condition_init.nd rfl (Or.inl rfl)) pgs_nil))) (pss_cons (ps_set (i := 7) sc_Condition_init.nd rfl (Or.inl rfl) (pe_and (pe_cmpR op_gt (pv 5) pe_int (nomark _)) (pe_and (pe_c (ok_is_name T) hr (by omega) T.g_is_name (E := E0) passN (pa_cons (pv 6) pa_nil)) (pe_one (pe_cmpR op_le_str (pv 6) (pe_ix ix_tup (pv 4) (pe_op op_sub (pv 5) pe_int) (fun _ _ => rfl)) (nomark _))))))
      (pss_cons (ps_if (pw_or (pt_not (pt_val (pe_c (ok_is_name T) hr (by omega) T.g_is_name (E := E0) passN (pa_cons (pv 6) pa_nil)))) (pw_or (pt_val (pv 7)) (pw_or1 (pt_cmpR op_ge (pe_op op_add (pe_op op_mul (pv 3) (pe_callB call_len_seq (by rfl) T.b_len PySem.boot_len (pa_cons (pv 1) pa_nil))) (pv 5)) (pe_glob (v := .int 8) (by rfl) T.i_MAX_NAMES.choose_spec ⟨_, rfl⟩) (nomark _))))).pt (pss_one ps_never) pss_nil)
      (pss_one (ps_if (pw_and (pt_cmpR op_eq (pv 3) pe_int (nomark _)) (pw_and1 (pt_cmpR op_in_seq (pv 6) (pv 1) rfl))).pt (pss_one ps_never) pss_nil)))))))
      (pss_cons (ps_fld (pv 0) (pv 1) rfl)
      (pss_one (ps_fld (pv 0) (pv 2) rfl)))), ?_⟩
  refine q_forET (xs := [.ref ha, .ref fa]) (fun Q k => (eu_tup (ea_cons (ev_var rfl) (ea_cons (ev_var rfl) ea_nil)) (by show 2 ≤ 100000; decide)) H (Ex.refl H) _ fun p H2 _ e2 hp => k p H2 e2 hp)
    (fun a m σ' H' => (∃ x3 x4 x5 x6 x7, σ' = [some (.ref x), some (.ref ha), some (.ref fa), x3, x4, x5, x6, x7]) ∧ Ex H H' ∧ H' a = some (.tup [.ref ha, .ref fa]))
    (fun a H1 e1 h1 => ⟨⟨_, _, _, _, _, rfl⟩, e1, h1⟩) (fun a m σ' H' p => p.2.2) (fun a m v σ' H' U H2 hv p e2 hU => ?_) (fun a σ' H' p => ?_)
  · obtain ⟨⟨x3, x4, x5, x6, x7, rfl⟩, e1, h1⟩ := p
    refine g_two hU ?_
    -- which side: its names, and that they are fit
    obtain ⟨na, ns, rfl, hN, hnm, has, hcnt, hdis, hm1⟩ : ∃ na ns, v = .ref na ∧ ST F na ns ∧ (∀ z ∈ ns, isName z = true) ∧ (∀ i, i + 1 < ns.length → ltS (wd ns i) (wd ns (i + 1)) = true) ∧ m * h.length + ns.length ≤ 8 ∧ (m = 1 → ∀ z ∈ ns, z ∉ h) ∧ m ≤ 1 := by
      match m, hv with
      | 0, hv => exact ⟨ha, h, (Option.some.inj hv).symm, hA, C.nmH, C.asH, by have := C.len; omega, fun e => (by omega), by omega⟩
      | 1, hv => exact ⟨fa, f, (Option.some.inj hv).symm, hB, C.nmF, C.asF, by have := C.len; omega, fun _ => C.dis, by omega⟩
      | m + 2, hv => cases hv
    have eH2 : Ex F H2 := (eF.trans e1).trans e2
    refine s_forET (xs := ns.map V.str) (fun Q k => EvA.v (ea_cons (ev_var rfl) ea_nil) fun H3 e3 => k na H3 e3 (e3 na _ (eH2 na _ hN)))
      (fun b i σ' H' => (∃ x5 x6 x7, σ' = [some (.ref x), some (.ref ha), some (.ref fa), some (.int m), some (.ref na), x5, x6, x7]) ∧ Ex H2 H' ∧ H' b = some (.tup (ns.map V.str)))
      (fun b H3 e3 h3 => ⟨⟨_, _, _, rfl⟩, e3, h3⟩) (fun b i σ' H' p => p.2.2) (fun b i v σ' H' T H3 hv p e3 hT => ?_) (fun b σ' H' p => ?_)
    · obtain ⟨⟨x5, x6, x7, rfl⟩, e4, h4⟩ := p
      refine g_two hT ?_
      have hi : i < ns.length := by
        have := (List.getElem?_eq_some_iff.mp hv).1
        rwa [List.length_map] at this
      have ev : v = .str (wd ns i) := by
        have := hv
        rw [List.getElem?_map, wd_at hi] at this
        exact (Option.some.inj this).symm
      subst ev
      have eH3 : Ex F H3 := (eH2.trans e4).trans e3
      have nz := hnm _ (wd_mem hi)
      have nl := name_le nz
      refine q_asg (v := .bl false) (ev_is (ev_andV (ev_op (ev_var rfl) ev_c rv_I0) fun h0 => ev_andV (ev_name (ev_var rfl) (by omega)) fun _ => ev_op (ev_var rfl) (ev_op (ev_var rfl) (ev_op (ev_var rfl) ev_c rv_I0) (rv_ixT (st_of (eH3 na _ hN)) (at_eq (at_str (p := i - 1) (by omega)) (by have := of_decide_eq_true h0; omega)))) rv_le) ?_) fun H4 e5 => ?_
      · rcases Nat.eq_zero_or_pos i with z | z
        · rw [decide_eq_false (by omega)]
          rfl
        · have := has (i - 1) (by omega)
          rw [show i - 1 + 1 = i by omega] at this
          rw [this]
          simp
      have eH4 := eH3.trans e5
      refine q_when (b := false) (et_is (et_or (et_not (et_B (ev_name (ev_var rfl) (by omega)))) fun _ => et_or (et_B (ev_var rfl)) fun _ => et_test (ev_op (ev_op (ev_op (ev_var rfl) (ev_lenT (ev_var rfl) (st_of (eH4 ha _ hA))) (rv_I (.inl ⟨by omega, by omega⟩))) (ev_var rfl) rv_I0) ev_c rv_I0)) ?_) (fun hb => nomatch hb) (fun _ H5 e6 => ?_)
      · rw [nz, List.length_map, decide_eq_false]
        · rfl
        · intro h8
          have : ((m * h.length : Nat) : Int) = (m : Int) * (h.length : Int) := Int.natCast_mul m h.length
          omega
      have eH5 := eH4.trans e6
      refine s_when (b := false) (et_is (et_and (et_test (ev_op (ev_var rfl) ev_c rv_eqi)) fun _ => et_test (ev_op (ev_var rfl) (ev_var rfl) (rv_inS (.inr (st_of (eH5 ha _ hA)))))) ?_) (fun hb => nomatch hb) (fun _ H6 e7 => ?_)
      · by_cases z : (m : Int) = 1
        · rw [decide_eq_false (hdis (by omega) _ (wd_mem hi)), Bool.and_false]
        · rw [decide_eq_false z, Bool.false_and]
      exact ⟨⟨_, _, _, rfl⟩, (((e4.trans e3).trans e5).trans e6).trans e7, e7 b _ (e6 b _ (e5 b _ (e3 b _ h4)))⟩
    · obtain ⟨⟨x5, x6, x7, rfl⟩, e4, h4⟩ := p
      exact ⟨⟨_, _, _, _, _, rfl⟩, (e1.trans e2).trans e4, e4 a _ (e2 a _ h1)⟩
  · obtain ⟨⟨x3, x4, x5, x6, x7, rfl⟩, e1, h1⟩ := p
    refine ⟨_, rfl, _, rfl, x, _, dx, _, rfl, e1 x _ hx, T.c_Condition, T.n_wanted, by decide, ?_⟩
    refine ⟨_, rfl, _, rfl, x, _, dx, _, rfl, upd_same, T.c_Condition, T.n_barred, by show 1 < 1000; decide, ?_⟩
    have eE := ((eF.trans e1).mut (o := .ins (ga K "Condition") dx (putF "wanted" (.ref ha) [])) fx).mut (o := .ins (ga K "Condition") dx (putF "barred" (.ref fa) (putF "wanted" (.ref ha) []))) fx
    exact q _ eE ⟨dx, ha, fa, by rw [upd_same]; rfl, eE ha _ hA, eE fa _ hB⟩
end
end K56
set_option Elab.async false
set_option linter.all false
set_option maxRecDepth 100000
set_option maxHeartbeats 4000000
/-! K56, part D4: the reader of a condition, of a rule. -/
namespace K56
open PySem PySem.W PyProof.Rows L2 Evl He
theorem wd_ne {ws : List Str} {k : Nat} {key : Str} (hk : key ≠ "") (h : wd ws k = key) (e : k = ws.length) : True = False := by
  rw [wd_out (Nat.le_of_eq e.symm)] at h
  exact absurd h.symm hk
theorem free_name {z : Str} (h : isFree z = true) : isName z = true := by
  unfold isFree at h
  rw [Bool.and_eq_true] at h
  exact h.1
theorem rdIf_yes {fs bar : List Str} {most : Nat} {key : Str} {ws : List Str} {k : Nat} (h : wd ws k = key) : rdIf fs bar most key ws k = sideGo fs bar most (ws.drop (k + 1)) [] (k + 1) := by
  unfold rdIf
  rw [if_pos h]
theorem rdIf_no {fs bar : List Str} {most : Nat} {key : Str} {ws : List Str} {k : Nat} (h : wd ws k ≠ key) : rdIf fs bar most key ws k = .inr ([], k) := by
  unfold rdIf
  rw [if_neg h]
theorem cond_ok {fs h f : List Str} (hf : ∀ z ∈ fs, isFree z = true) (S1 : SideOK fs [] 8 h) (S2 : SideOK fs h (8 - h.length) f) : CondOK h f :=
  ⟨fun z hz => free_name (hf z (S1.mem z hz).1), fun z hz => free_name (hf z (S2.mem z hz).1), S1.asc, S2.asc, by have := S1.len; have := S2.len; omega, fun z hz => (S2.mem z hz).2⟩
section
variable {P : Program} {w : World} {K : Frag} {mg : Str → Option Value} {base : Heap}
def spRCond (K : Frag) : Sp := fun vs H Q E => ∃ (F : Hp) (r : Addr) (n : Int) (wl : Addr) (ws : List Str) (p : Nat) (fa : Addr) (fs : List Str), vs = [.ref r, .ref fa] ∧ RF K F H r n wl ws p ∧ ST F fa fs ∧ (∀ z ∈ fs, isFree z = true) ∧
  (∀ h f, rdCond fs ws p = .inr (h, f) → ∀ c H', Ex F H' → CondAt K H' c h f → Q (.ref c) H') ∧ (∀ k : Nat, rdCond fs ws p = .inl k → Rz K F n k E)
theorem sc_read_condition : FnScope ["row", "facts", "holding", "failing"] ["row", "facts"] (defScope sRCond) := ⟨rfl, rfl, rfl, by decide +kernel, rfl, by decide +kernel, by decide +kernel⟩
theorem ok_read_condition (T : TX P K mg) : OkF P w K mg base (L2.CX P w) (7 + 1) (ga K "read_condition") ["row", "facts"] (spRCond K) := by
  refine OkF.mkX T.d_read_condition sc_read_condition (fun _ _ _ _ _ _ us hl => match us, hl with | [_, _], _ => rfl) (fun vs H Q E h => ?_) (fun cdv A outs s H vs Q E hr h => ?_)
  · obtain ⟨_, _, _, _, _, _, _, _, rfl, _⟩ := h; rfl
  obtain ⟨F, r, n, wl, ws, p, fa, fs, rfl, R, hF, hfree, q1, q2⟩ := h
  refine ⟨_, (pss_cons (ps_asg (pe_tup (pa_cons (pe_tup pa_nil) (pa_cons (pe_tup pa_nil) pa_nil))) (pg_tup rfl (pgs_cons (pg_name (i := 2) sc_read_condition.nd rfl (Or.inl rfl)) (pgs_cons (pg_name (i := 3) sc_read_condition.nd rfl (Or.inl rfl)) pgs_nil))))
      (pss_cut (ps_if (pt_cmpR op_eq (pe_m0 (pv 0) T.c_Row T.m_peek (ok_Row_peek T) hr (by omega) (E := E0) passN) pe_str (nomark _)) (pss_cons (ps_expr (pe_m (pv 0) T.c_Row T.m_take (ok_Row_take T) hr (by omega) (passes_call (takes_of rfl rfl rfl rfl) (fun _ _ _ _ h => h)) (pa_cons pe_bl pa_nil)))
      (pss_one (ps_set (i := 2) sc_read_condition.nd rfl (Or.inl rfl) (pe_c (ok_read_side T) hr (by omega) T.g_read_side (passes_call (takes_of rfl rfl rfl rfl) (fun _ _ _ _ h => h)) (pa_cons (pv 0) (pa_cons (pv 1) (pa_cons (pe_tup pa_nil) (pa_cons (pe_glob (v := .int 8) (by rfl) T.i_MAX_NAMES.choose_spec ⟨_, rfl⟩) pa_nil)))))))) pss_nil)
      (pss_cut (ps_if (pt_cmpR op_eq (pe_m0 (pv 0) T.c_Row T.m_peek (ok_Row_peek T) hr (by omega) (E := E0) passN) pe_str (nomark _)) (pss_cons (ps_expr (pe_m (pv 0) T.c_Row T.m_take (ok_Row_take T) hr (by omega) (passes_call (takes_of rfl rfl rfl rfl) (fun _ _ _ _ h => h)) (pa_cons pe_bl pa_nil)))
      (pss_one (ps_set (i := 3) sc_read_condition.nd rfl (Or.inl rfl) (pe_c (ok_read_side T) hr (by omega) T.g_read_side (passes_call (takes_of rfl rfl rfl rfl) (fun _ _ _ _ h => h)) (pa_cons (pv 0) (pa_cons (pv 1) (pa_cons (pv 2) (pa_cons (pe_op op_sub (pe_glob (v := .int 8) (by rfl) T.i_MAX_NAMES.choose_spec ⟨_, rfl⟩) (pe_callB call_len_seq (by rfl) T.b_len PySem.boot_len (pa_cons (pv 2) pa_nil))) pa_nil)))))))) pss_nil)
      (pss_cons (ps_expr (pe_m0 (pv 0) T.c_Row T.m_end (ok_Row_end T) hr (by omega) (passes_call (takes_of rfl rfl rfl rfl) (fun _ _ _ _ h => h))))
      (pss_one (ps_ret (pe_mk T.k_Condition (ok_Condition_init T) hr (by omega) T.g_Condition (E := E0) passN (pa_cons (pv 2) (pa_cons (pv 3) pa_nil))))))))), ?_⟩
  refine ⟨Nat.zero_le _, fun a0 ha0 => ⟨Nat.zero_le _, fun b0 hb0 => ⟨by show 2 ≤ sizeLine; decide, fun c0 hc0 => g_two upd_same ?_⟩⟩⟩
  have hA : upd (upd (upd H a0 (.tup [])) b0 (.tup [])) c0 (.tup [.ref a0, .ref b0]) a0 = some (.tup []) := Ex.new hc0 _ _ (Ex.new hb0 _ _ upd_same)
  have hB : upd (upd (upd H a0 (.tup [])) b0 (.tup [])) c0 (.tup [.ref a0, .ref b0]) b0 = some (.tup []) := Ex.new hc0 _ _ upd_same
  have e3 : Ex H (upd (upd (upd H a0 (.tup [])) b0 (.tup [])) c0 (.tup [.ref a0, .ref b0])) := ((Ex.new ha0).trans (Ex.new hb0)).trans (Ex.new hc0)
  revert hA hB e3
  generalize upd (upd (upd H a0 (.tup [])) b0 (.tup [])) c0 (.tup [.ref a0, .ref b0]) = H3
  intro hA hB e3
  have R3 := R.mono e3
  have eB : Ex F (upd F b0 (.tup [])) := ex_grow R3.ex hB
  have RB := R3.hold hB (R3.ne hB)
  refine q_cut (M := fun σ' H' => ∃ ha h k1, σ' = [some (.ref r), some (.ref fa), some (.ref ha), some (.ref b0)] ∧ RF K F H' r n wl ws k1 ∧ ST H' ha h ∧ ST H' b0 [] ∧ rdIf fs [] 8 "if" ws p = .inr (h, k1)) ?_ ?_
  · refine s_when (et_test (ev_op (ev_peek R3 rfl) ev_c rv_eqs)) (fun hb H4 e4 => ?_) (fun hb H4 e4 => ?_)
    · have hw : wd ws p = "if" := of_decide_eq_true hb
      refine go_take (b := true) (RB.mono e4) rfl ev_c (fun e => absurd hw (by rw [wd_out (Nat.le_of_eq e.symm)]; decide)) (fun _ H5 R5 => ?_) (fun h => nomatch h)
      refine ⟨_, rfl, _, rfl, Nat.zero_le _, fun t0 ht0 => ?_⟩
      have R6 := R5.mono (Ex.new (o := .tup []) ht0)
      have R7 := R6.hold (upd_same : upd H5 t0 (.tup []) t0 = some (.tup [])) (R6.ne upd_same)
      refine ⟨upd (upd F b0 (.tup [])) t0 (.tup []), r, n, wl, ws, p + 1, fa, t0, fs, [], 8, rfl, R7, ex_grow R6.ex upd_same _ _ (eB _ _ hF), upd_same, hfree, fun fd k hg a H' R8 hS => ?_, fun k hg => ?_⟩
      · exact ⟨a, fd, k, rfl, R8.un (eB.trans (ex_grow R6.ex upd_same)) R.wds R.fr, hS, R8.ex _ _ (ex_grow R6.ex upd_same _ _ upd_same), by rw [rdIf_yes hw, hg]⟩
      · refine (q2 k ?_).mono (eB.trans (ex_grow R6.ex upd_same))
        unfold rdCond
        rw [rdIf_yes hw, hg]
    · exact ⟨a0, [], p, rfl, R3.mono e4, e4 _ _ hA, e4 _ _ hB, rdIf_no (of_decide_eq_false hb)⟩
  rintro σ' H4 ⟨ha, h, k1, rfl, R4, hH, hB4, hr1⟩
  have S1 := rdIf_ok R.le hr1
  have e4H : Ex F (upd F ha (.tup (h.map V.str))) := ex_grow R4.ex hH
  have RH := R4.hold hH (R4.ne hH)
  refine q_cut (M := fun σ' H' => ∃ ba f k2, σ' = [some (.ref r), some (.ref fa), some (.ref ha), some (.ref ba)] ∧ RF K F H' r n wl ws k2 ∧ ST H' ha h ∧ ST H' ba f ∧ rdIf fs h (8 - h.length) "not" ws k1 = .inr (f, k2)) ?_ ?_
  · refine s_when (et_test (ev_op (ev_peek R4 rfl) ev_c rv_eqs)) (fun hb H5 e5 => ?_) (fun hb H5 e5 => ?_)
    · have hw : wd ws k1 = "not" := of_decide_eq_true hb
      refine go_take (b := true) (RH.mono e5) rfl ev_c (fun e => absurd hw (by rw [wd_out (Nat.le_of_eq e.symm)]; decide)) (fun _ H6 R6 => ?_) (fun h => nomatch h)
      refine go_k (ea_cons (ev_var rfl) (ea_cons (ev_var rfl) (ea_cons (ev_var rfl) (ea_cons (ev_op ev_c (ev_lenT (ev_var rfl) (st_of (R6.ex _ _ upd_same))) rv_I0) ea_nil)))) fun H7 e7 => ?_
      have hl8 : (8 : Int) - ((h.map V.str).length : Nat) = ((8 - h.length : Nat) : Int) := by
        have := S1.1.len
        rw [List.length_map]
        omega
      rw [hl8]
      refine ⟨upd F ha (.tup (h.map V.str)), r, n, wl, ws, k1 + 1, fa, ha, fs, h, 8 - h.length, rfl, R6.mono e7, e4H _ _ hF, upd_same, hfree, fun fd k hg a H' R8 hS => ?_, fun k hg => ?_⟩
      · exact ⟨a, fd, k, rfl, R8.un e4H R.wds R.fr, R8.ex _ _ upd_same, hS, by rw [rdIf_yes hw, hg]⟩
      · refine (q2 k ?_).mono e4H
        unfold rdCond
        rw [hr1]
        show (match rdIf fs h (8 - h.length) "not" ws k1 with
          | .inl e => _
          | .inr (f, k2) => _) = _
        rw [rdIf_yes hw, hg]
    · exact ⟨b0, [], k1, rfl, R4.mono e5, e5 _ _ hH, e5 _ _ hB4, rdIf_no (of_decide_eq_false hb)⟩
  rintro σ' H5 ⟨ba, f, k2, rfl, R5, hH5, hB5, hr2⟩
  have S2 := rdIf_ok S1.2.2 hr2
  have hrd : rdCond fs ws p = if k2 = ws.length then .inr (h, f) else .inl k2 := by
    unfold rdCond
    rw [hr1]
    show (match rdIf fs h (8 - h.length) "not" ws k1 with
      | .inl e => _
      | .inr (f, k2) => _) = _
    rw [hr2]
  refine go_end R5 rfl (fun he H6 e6 => ?_) (fun he => q2 k2 (by rw [hrd, if_neg he]))
  rw [if_pos he] at hrd
  refine go_mk (ea_cons (ev_var rfl) (ea_cons (ev_var rfl) ea_nil)) fun H7 e7 x dx hx hdx ne => ?_
  have e57 := e6.trans e7
  refine ⟨x, ha, ba, dx, h, f, H7, rfl, upd_same, ex_inst hx hdx ne, hx, e57 _ _ hH5, e57 _ _ hB5, cond_ok hfree S1.1 S2.1, fun H' eH' hC => ⟨rfl, ?_⟩⟩
  exact q1 h f hrd x H' ((R5.ex.trans e57).trans eH') hC
end
end K56
set_option Elab.async false
set_option linter.all false
set_option maxRecDepth 100000
set_option maxHeartbeats 4000000
/-! K56, part D5: the reader of a rule. -/
namespace K56
open PySem PySem.W PyProof.Rows L2 Evl He
theorem et_yes {σ : L2.St} {H : Hp} : EvT tYes σ H true := fun H1 _ _ q => q H1 (Ex.refl H1)
section
variable {P : Program} {w : World} {K : Frag} {mg : Str → Option Value} {base : Heap}
def KAt (K : Frag) (H : Hp) (v : V) (k : KR) : Prop := ∃ t c, v = .ref t ∧ H t = some (.tup [.int k.dp, .str k.nm, .ref c, .str k.ru]) ∧ CondAt K H c k.ho k.fa
theorem KAt.mono {H H' : Hp} {v : V} {k : KR} (h : KAt K H v k) (e : Ex H H') : KAt K H' v k := by
  obtain ⟨t, c, h1, h2, h3⟩ := h
  exact ⟨t, c, h1, e t _ h2, h3.mono e⟩
def spRRule (K : Frag) : Sp := fun vs H Q E => ∃ (F : Hp) (r : Addr) (n : Int) (wl : Addr) (ws : List Str) (fa kl : Addr) (fs : List Str) (xs : List V) (ks : List KR), vs = [.ref r, .ref fa, .ref kl] ∧ RF K F H r n wl ws 0 ∧ ST F fa fs ∧ (∀ z ∈ fs, isFree z = true) ∧
  F kl = some (.lst xs) ∧ All2 (KAt K F) xs ks ∧ ks.length ≤ 60 ∧ (∀ k, rrOf fs ks ws = .inr k → ∀ v H', Ex F H' → KAt K H' v k → Q v H') ∧ (∀ e : Nat, rrOf fs ks ws = .inl e → Rz K F n e E)
theorem rc_min {i j : Int} {H : Hp} : RC (fun xs H Q => ∃ i j, xs = [.int i, .int j] ∧ Q (.int (if j < i then j else i)) H) [.int i, .int j] H (.int (if j < i then j else i)) := fun H1 _ _ q => ⟨i, j, rfl, q H1 (Ex.refl H1)⟩
theorem rdRule_deep {fs ns ws : List Str} {d : Nat} (h : d < marks ws) : rdRule fs ns d ws = .inl d := by
  unfold rdRule
  rw [if_pos h]
theorem sc_read_rule : FnScope ["row", "facts", "known", "outermost", "depth", "deepest", "name", "ruling", "one"] ["row", "facts", "known"] (defScope sRRule) := ⟨rfl, rfl, rfl, by decide +kernel, rfl, by decide +kernel, by decide +kernel⟩
theorem ok_read_rule (T : TX P K mg) : OkF P w K mg base (L2.CX P w) (8 + 1) (ga K "read_rule") ["row", "facts", "known"] (spRRule K) := by
  refine OkF.mkX T.d_read_rule sc_read_rule (fun _ _ _ _ _ _ us hl => match us, hl with | [_, _, _], _ => rfl) (fun vs H Q E h => ?_) (fun cdv A outs s H vs Q E hr h => ?_)
  · obtain ⟨_, _, _, _, _, _, _, _, _, _, rfl, _⟩ := h; rfl
  obtain ⟨F, r, n, wl, ws, fa, kl, fs, xs, ks, rfl, R, hF, hfree, hK, hA, h60, q1, q2⟩ := h
  refine ⟨_, (pss_cons (ps_set (i := 3) sc_read_rule.nd rfl (Or.inl rfl) (pe_callB call_len_seq (by rfl) T.b_len PySem.boot_len (pa_cons (pe_lc (own := [("one", 8)]) (g := (gName 8))  rfl sc_read_rule.nd (pi_list (pv 2)) (blkOk_by (own := [("one", 8)]) (N := ["row", "facts", "known", "outermost", "depth", "deepest", "name", "ruling", "one"]) (sc := defScope sRRule) (by decide +kernel)) (fun _ _ _ _ _ => (pg_name (i := 8) sc_read_rule.nd rfl (Or.inl rfl) (.inr (by rfl)))) (fun _ _ _ _ _ => pts_one (pt_cmpR op_eq (pe_ix (show IxR _ (rIxT K) from ix_tup) (pv 8) pe_int (fun _ _ => rfl)) pe_int (nomark _))) (fun _ _ _ _ _ => (pv 8))) pa_nil)))
      (pss_cons (ps_expr (pe_m (pv 0) T.c_Row T.m_check (ok_Row_check T) hr (by omega) (passes_call (takes_of rfl rfl rfl rfl) (fun _ _ _ _ h => h)) (pa_cons (pe_and (pe_cmpR op_lt (pe_callB call_len_seq (by rfl) T.b_len PySem.boot_len (pa_cons (pv 2) pa_nil)) (pe_glob (v := .int 60) (by rfl) T.i_MAX_RULES.choose_spec ⟨_, rfl⟩) (nomark _)) (pe_one (pe_or (pe_cmpR op_eq (pe_m0 (pv 0) T.c_Row T.m_peek (ok_Row_peek T) hr (by omega) (E := E0) passN) (pe_glob (v := .str ">") (by rfl) T.s_DEEPER.choose_spec ⟨_, rfl⟩) (nomark _)) (pe_one (pe_cmpR op_lt (pv 3) (pe_glob (v := .int 40) (by rfl) T.i_MAX_OUTERMOST.choose_spec ⟨_, rfl⟩) (nomark _)))))) pa_nil)))
      (pss_cons (ps_par (i := 4) (j := 5) rfl sc_read_rule.nd rfl rfl (by decide) rfl rfl (pa_cons pe_int (pa_cons (pe_callB (call_min2 rfl) (by rfl) T.b_min (by decide +kernel) (pa_cons (pe_glob (v := .int 5) (by rfl) T.i_MAX_OPEN.choose_spec ⟨_, rfl⟩) (pa_cons (pe_ifExp (pt_cmpR (op_neE (hu_of hr)) (pv 2) (pe_lst pa_nil) (nomark _)) (pe_op op_add (pe_ix ix_tup (pe_ix ix_list (pv 2) (pe_un un_neg pe_int) (fun _ _ => rfl)) pe_int (fun _ _ => rfl)) pe_int) pe_int) pa_nil))) pa_nil)) rfl)
      (pss_cons (ps_while (passes_of rfl) (pt_cmpR op_eq (pe_m0 (pv 0) T.c_Row T.m_peek (ok_Row_peek T) hr (by omega) (E := E0) passN) (pe_glob (v := .str ">") (by rfl) T.s_DEEPER.choose_spec ⟨_, rfl⟩) (nomark _)) (pss_cons (ps_expr (pe_m (pv 0) T.c_Row T.m_take (ok_Row_take T) hr (by omega) (passes_call (takes_of rfl rfl rfl rfl) (fun _ _ _ _ h => h)) (pa_cons (pe_cmpR op_lt (pv 4) (pv 5) (nomark _)) pa_nil)))
      (pss_one (ps_aug (i := 4) sc_read_rule.nd rfl (Or.inl rfl) pe_int ip_add))))
      (pss_cons (ps_set (i := 6) sc_read_rule.nd rfl (Or.inl rfl) (pe_m (pv 0) T.c_Row T.m_take (ok_Row_take T) hr (by omega) (passes_call (takes_of rfl rfl rfl rfl) (fun _ _ _ _ h => h)) (pa_cons (pe_and (pe_c (ok_is_free_name T) hr (by omega) T.g_is_free_name (E := E0) passN (pa_cons (pe_m0 (pv 0) T.c_Row T.m_peek (ok_Row_peek T) hr (by omega) (E := E0) passN) pa_nil)) (pe_one (pe_cmpR op_notIn_seq (pe_m0 (pv 0) T.c_Row T.m_peek (ok_Row_peek T) hr (by omega) (E := E0) passN) (pe_lc (own := [("one", 8)]) (g := (gName 8)) (tt := tYes)  rfl sc_read_rule.nd (pi_list (pv 2)) (blkOk_by (own := [("one", 8)]) (N := ["row", "facts", "known", "outermost", "depth", "deepest", "name", "ruling", "one"]) (sc := defScope sRRule) (by decide +kernel)) (fun _ _ _ _ _ => (pg_name (i := 8) sc_read_rule.nd rfl (Or.inl rfl) (.inr (by rfl)))) (fun _ _ _ _ _ => pts_nil) (fun _ _ _ _ _ => (pe_ix (show IxR _ (rIxT K) from ix_tup) (pv 8) pe_int (fun _ _ => rfl)))) rfl))) pa_nil)))
      (pss_cons (ps_expr (pe_m (pv 0) T.c_Row T.m_take (ok_Row_take T) hr (by omega) (passes_call (takes_of rfl rfl rfl rfl) (fun _ _ _ _ h => h)) (pa_cons (pe_cmpR op_eq (pe_m0 (pv 0) T.c_Row T.m_peek (ok_Row_peek T) hr (by omega) (E := E0) passN) pe_str (nomark _)) pa_nil)))
      (pss_cons (ps_set (i := 7) sc_read_rule.nd rfl (Or.inl rfl) (pe_m0 (pv 0) T.c_Row T.m_take_name (ok_Row_take_name T) hr (by omega) (passes_call (takes_of rfl rfl rfl rfl) (fun _ _ _ _ h => h))))
      (pss_one (ps_ret (pe_tup (pa_cons (pv 4) (pa_cons (pv 6) (pa_cons (pe_c (ok_read_condition T) hr (by omega) T.g_read_condition (passes_call (takes_of rfl rfl rfl rfl) (fun _ _ _ _ h => h)) (pa_cons (pv 0) (pa_cons (pv 1) pa_nil))) (pa_cons (pv 7) pa_nil)))))))))))))), ?_⟩
  have hKH := R.ex kl _ hK
  have hlen : (xs.length : Int) = (ks.length : Int) := by rw [hA.1]
  -- outermost
  refine q_asg (v := .int (outer ks : Nat)) (ev_is (ev_lenN (el_lcL (fun i => decide ((ks[i]?.getD default).dp = 0)) (fun i => xs[i]?.getD .non) (ev_var rfl) (sq_of hKH) (by rw [hA.1]; omega) (fun x => rfl) (fun i v H1 e1 hv => ?_) (fun i v H1 e1 hv hf => ?_))) ?_) fun H1 e1 => ?_
  · obtain ⟨k, hk, t, c, rfl, h1, h2⟩ := hA.getV hv
    rw [hk]
    refine et_is (et_test (ev_op (ev_op (ev_var rfl) ev_c (rv_ixT (st_of (e1 _ _ (R.ex _ _ h1))) (at_eq (atI_nat (j := 0) rfl) rfl))) ev_c rv_eqi)) ?_
    show decide ((k.dp : Int) = 0) = decide (k.dp = 0)
    rw [Bool.eq_iff_iff, decide_eq_true_eq, decide_eq_true_eq]
    omega
  · rw [hv]
    exact ev_var rfl
  · rw [hA.1]
    exact congrArg (fun n : Nat => V.int (n : Int)) (given_filter ks default (fun k : KR => decide (k.dp = 0)) _)
  have R1 := R.mono e1
  -- check
  refine go_check (b := decide (ks.length < 60) && (decide (wd ws 0 = ">") || decide (outer ks < 40))) R1 rfl (ev_andV (ev_is (ev_op (ev_len (ev_var rfl) (sq_of (e1 _ _ hKH))) ev_c rv_I0) (by rw [hlen]; congr 1; rw [Bool.eq_iff_iff, decide_eq_true_eq, decide_eq_true_eq]; omega)) fun _ => ev_orV (ev_op (ev_peek R1 rfl) ev_c rv_eqs) fun _ =>
    ev_is (ev_op (ev_var rfl) ev_c rv_I0) (by congr 1; rw [Bool.eq_iff_iff, decide_eq_true_eq, decide_eq_true_eq]; omega)) (fun hb H2 e2 => ?_) (fun hb => q2 0 ?_)
  rotate_left
  · unfold rrOf
    rw [if_pos]
    rintro ⟨h1, h2⟩
    rw [decide_eq_true h1, Bool.true_and] at hb
    rcases h2 with h2 | h2
    · rw [decide_eq_true h2] at hb
      cases hb
    · rw [decide_eq_true h2, Bool.or_true] at hb
      cases hb
  have hrr : rrOf fs ks ws = rdRule fs (ks.map (·.nm)) (deepest ks) ws := by
    unfold rrOf
    rw [if_neg]
    rw [Bool.and_eq_true, Bool.or_eq_true, decide_eq_true_eq, decide_eq_true_eq, decide_eq_true_eq] at hb
    exact fun h => h hb
  rw [hrr] at q1 q2
  clear hb hrr
  have R2 := R1.mono e2
  have e12 := e1.trans e2
  -- depth, deepest
  refine q_par (v := .int ((0 : Nat) : Int)) (u := .int (deepest ks : Nat)) (ea_cons ev_c (ea_cons (ev_is (ev_cb (ea_cons ev_c (ea_cons (x := .int (lastD ks : Nat)) (ev_if (et_test (ev_neE (ev_var rfl) (sq_of (e12 _ _ hKH)) el_nil)) (fun hb => ?_) (fun hb => ?_)) ea_nil)) rc_min) ?_) ea_nil)) fun H3 e3 => ?_
  · have hne : ks ≠ [] := fun z => by
      have : xs = [] := List.eq_nil_of_length_eq_zero (by rw [hA.1, z]; rfl)
      rw [decide_eq_true this] at hb
      cases hb
    have hk : ks.getLast? = some (ks.getLast hne) := List.getLast?_eq_getLast hne
    obtain ⟨v, hv, t, c, rfl, h1, h2⟩ := hA.last hk
    refine ev_is (ev_op (ev_op (ev_op (ev_var rfl) (ev_un ev_c ru_neg) (rv_ixL (sq_of (e12 _ _ hKH)) hv)) ev_c (rv_ixT (st_of (e12 _ _ (R.ex _ _ h1))) (at_eq (atI_nat (j := 0) rfl) rfl))) ev_c rv_I0) ?_
    unfold lastD
    rw [hk]
    rfl
  · have hn : xs = [] := of_decide_eq_true (by simpa using hb)
    have hk : ks = [] := List.eq_nil_of_length_eq_zero (by rw [← hA.1, hn]; rfl)
    rw [hk]
    exact ev_c
  · rw [deepest_eq]
    congr 1
    split <;> omega
  have R3 := R2.mono e3
  -- the markers
  refine q_while (fun m σ' H' => ∃ d : Nat, m = ws.length - d ∧ d ≤ deepest ks ∧ σ' = [some (.ref r), some (.ref fa), some (.ref kl), some (.int (outer ks : Nat)), some (.int d), some (.int (deepest ks : Nat)), none, none, none] ∧ RF K F H' r n wl ws d ∧ marks ws = marks (ws.drop d) + d)
    (ws.length - 0) ⟨0, rfl, Nat.zero_le _, rfl, R3, rfl⟩ ?_
  rintro m σ' H' ⟨d, rfl, hd, rfl, R4, hm⟩
  refine ⟨_, et_test (ev_op (ev_peek R4 rfl) ev_c rv_eqs), fun hb H4 e4 => ?_, fun hb H4 e4 => ?_⟩
  · have hw : wd ws d = ">" := of_decide_eq_true hb
    have hdl : d < ws.length := by
      rcases Nat.lt_or_ge d ws.length with h | h
      · exact h
      · rw [wd_out h] at hw
        exact absurd hw (by decide)
    have hs := marks_step hw hdl
    refine ⟨fun σ2 H2 => d + 1 ≤ deepest ks ∧ σ2 = [some (.ref r), some (.ref fa), some (.ref kl), some (.int (outer ks : Nat)), some (.int ((d + 1 : Nat) : Int)), some (.int (deepest ks : Nat)), none, none, none] ∧ RF K F H2 r n wl ws (d + 1), ?_, ?_⟩
    · rintro σ2 H2 ⟨a, b, c⟩
      exact ⟨ws.length - (d + 1), by omega, d + 1, rfl, a, b, c, by omega⟩
    refine go_take (b := decide (d < deepest ks)) (R4.mono e4) rfl (ev_is (ev_op (ev_var rfl) (ev_var rfl) rv_I0) (by congr 1; rw [Bool.eq_iff_iff, decide_eq_true_eq, decide_eq_true_eq]; omega)) (fun e => absurd e (by omega)) (fun hb5 H5 R5 => ?_) (fun hb5 => ?_)
    · exact ⟨_, rfl, _, _, rfl, rfl, of_decide_eq_true hb5, rfl, R5⟩
    · have h5 : ¬ d < deepest ks := of_decide_eq_false hb5
      have h6 : d = deepest ks := by omega
      refine q2 d ?_
      rw [h6]
      exact rdRule_deep (by omega)
  have hm2 : marks ws = d := by rw [hm, marks_stop (of_decide_eq_false hb), Nat.zero_add]
  have R5 := R4.mono e4
  have hKR := R5.ex kl _ hK
  -- the name
  refine go_take (b := isFree (wd ws d) && !decide (wd ws d ∈ ks.map (·.nm))) R5 rfl (ev_andV (ev_free (ev_peek R5 rfl) (wd_small R5.sml)) fun _ => ev_opL (xs := (ks.map (·.nm)).map V.str) (ev_peek R5 rfl) ?_ (fun q H1 hq e1 => rv_niS (.inl (sq_of hq)))) (fun e => ?_) (fun hb6 H6 R6 => ?_) (fun hb6 => q2 d ?_)
  · have := el_lcL (K := K) (te := tOp (rIxT K) (tVar 8) (tC (.int 1))) (t := tYes) (j := 8) (vs := [8]) (fun _ => true) (fun i => V.str ((ks[i]?.getD default).nm)) (ev_var (i := 2) (σ := [some (.ref r), some (.ref fa), some (.ref kl), some (.int (outer ks : Nat)), some (.int d), some (.int (deepest ks : Nat)), none, none, none]) rfl) (sq_of hKR) (by rw [hA.1]; omega) (fun x => rfl) (fun i v H1 e1 hv => et_yes) (fun i v H1 e1 hv hf => ?_)
    · rw [hA.1, given_map (g := fun k : KR => V.str k.nm)] at this
      rw [List.map_map]
      exact this
    · obtain ⟨k, hk, t, c, rfl, h1, h2⟩ := hA.getV hv
      rw [hk]
      exact ev_op (ev_var rfl) ev_c (rv_ixT (st_of (e1 _ _ (R5.ex _ _ h1))) (at_eq (atI_nat (j := 1) rfl) rfl))
  · rw [wd_out (Nat.le_of_eq e.symm), free_nil]
    rfl
  rotate_left
  · unfold rdRule
    rw [hm2, if_neg (by omega), if_pos hb6]
  -- is
  refine go_take R6 rfl (ev_op (ev_peek R6 rfl) ev_c rv_eqs) ne_emp (fun hb7 H7 R7 => ?_) (fun hb7 => q2 (d + 1) ?_)
  rotate_left
  · unfold rdRule
    rw [hm2, if_neg (by omega), if_neg (by rw [hb6]; decide), if_pos (of_decide_eq_false hb7)]
  have h7 : wd ws (d + 1) = "is" := of_decide_eq_true hb7
  -- the ruling
  refine go_takeN R7 rfl (fun hb8 H8 R8 => ?_) (fun hb8 => q2 (d + 1 + 1) ?_)
  rotate_left
  · unfold rdRule
    rw [hm2, if_neg (by omega), if_neg (by rw [hb6]; decide), if_neg (fun h => h h7), if_pos hb8]
  have hrd : rdRule fs (ks.map (·.nm)) (deepest ks) ws = (match rdCond fs ws (d + 3) with
      | .inl e => .inl e
      | .inr (h, f) => .inr ⟨d, wd ws d, h, f, wd ws (d + 2)⟩) := by
    unfold rdRule
    rw [hm2, if_neg (by omega), if_neg (by rw [hb6]; decide), if_neg (fun h => h h7), if_neg (by rw [show d + 2 = d + 1 + 1 from rfl, hb8]; decide)]
    all_goals rfl
  refine ⟨_, rfl, _, rfl, go_k (ea_cons (ev_var rfl) (ea_cons (ev_var rfl) ea_nil)) fun H9 e9 => ?_⟩
  refine ⟨F, r, n, wl, ws, d + 1 + 1 + 1, fa, fs, rfl, R8.mono e9, hF, hfree, fun h f hg c H10 e10 hC => ⟨_, rfl, by show 4 ≤ sizeLine; decide, fun t ht => ?_⟩, fun e hg => q2 e ?_⟩
  · refine q1 ⟨d, wd ws d, h, f, wd ws (d + 2)⟩ (by rw [hrd, show d + 3 = d + 1 + 1 + 1 from rfl, hg]) (.ref t) _ (e10.trans (Ex.new ht)) ⟨t, c, rfl, upd_same, hC.mono (Ex.new ht)⟩
  · rw [hrd, show d + 3 = d + 1 + 1 + 1 from rfl, hg]
end
end K56
set_option Elab.async false
set_option linter.all false
set_option maxRecDepth 100000
set_option maxHeartbeats 4000000
/-! K56, part P2: nesting, plain. -/
namespace K56
open PySem PySem.W PyProof.Rows L2 Evl He
def Fo.app : Fo → Fo → Fo
  | .nil, g => g
  | .cons k i r, g => .cons k i (r.app g)
theorem Fo.app_nil : ∀ f : Fo, f.app .nil = f
  | .nil => rfl
  | .cons k i r => by
    show Fo.cons k i (r.app .nil) = _
    rw [Fo.app_nil r]
theorem Fo.app_assoc : ∀ f g h : Fo, (f.app g).app h = f.app (g.app h)
  | .nil, _, _ => rfl
  | .cons k i r, g, h => by
    show Fo.cons k i ((r.app g).app h) = Fo.cons k i (r.app (g.app h))
    rw [Fo.app_assoc r g h]
theorem Fo.data_app : ∀ f g : Fo, (f.app g).data = f.data ++ g.data
  | .nil, _ => rfl
  | .cons k i r, g => by
    show _ :: (r.app g).data = _ :: (r.data ++ g.data)
    rw [Fo.data_app r g]
/-- where the rows of depth d begin, counted from off -/
def begs (d : Nat) : List KR → Nat → List Nat
  | [], _ => []
  | k :: r, off => if k.dp = d then off :: begs d r (off + 1) else begs d r (off + 1)
def above (d : Nat) (k : KR) : Bool := decide (d < k.dp)
theorem begs_cons {f : List KR → Fo} {d b : Nat} {t : List Nat} : ∀ (l : List KR) (m : Nat), begs d l m = b :: t →
    m ≤ b ∧ ∃ k r, l.drop (b - m) = k :: r ∧ k.dp = d ∧ nestW f d l = .cons k (f (r.takeWhile (above d))) (nestW f d r) ∧ t = begs d r (b + 1)
  | [], m, h => by cases h
  | k :: r, m, h => by
    unfold begs at h
    by_cases e : k.dp = d
    · rw [if_pos e] at h
      obtain ⟨rfl, rfl⟩ := List.cons.inj h
      refine ⟨Nat.le_refl _, k, r, by rw [Nat.sub_self]; rfl, e, ?_, rfl⟩
      show (if _ then _ else _) = _
      rw [if_pos e]
      rfl
    · rw [if_neg e] at h
      obtain ⟨h1, k2, r2, h2, h3, h4, h5⟩ := begs_cons (f := f) r (m + 1) h
      refine ⟨by omega, k2, r2, ?_, h3, ?_, h5⟩
      · obtain ⟨c, hc⟩ : ∃ c, b - m = c + 1 := ⟨b - m - 1, by omega⟩
        rw [hc, List.drop_succ_cons, ← h2]
        congr 1
        omega
      · show (if _ then _ else _) = _
        rw [if_neg e]
        exact h4
theorem begs_nil {f : List KR → Fo} {d : Nat} : ∀ (l : List KR) (m : Nat), begs d l m = [] → nestW f d l = .nil
  | [], _, _ => rfl
  | k :: r, m, h => by
    unfold begs at h
    by_cases e : k.dp = d
    · rw [if_pos e] at h
      cases h
    · rw [if_neg e] at h
      show (if _ then _ else _) = _
      rw [if_neg e]
      exact begs_nil r (m + 1) h
theorem begs_take {d : Nat} : ∀ (l : List KR) (m : Nat), (∀ k ∈ l, d ≤ k.dp) → l.takeWhile (above d) = l.take ((begs d l m).head?.getD (m + l.length) - m) ∧ m ≤ (begs d l m).head?.getD (m + l.length)
  | [], m, _ => ⟨by simp, by simp [begs]⟩
  | k :: r, m, h => by
    have hk := h k List.mem_cons_self
    obtain ⟨ih, ih2⟩ := begs_take r (m + 1) fun x hx => h x (List.mem_cons_of_mem _ hx)
    unfold begs
    by_cases e : k.dp = d
    · rw [if_pos e]
      refine ⟨?_, Nat.le_refl _⟩
      show _ = List.take (m - m) _
      rw [Nat.sub_self, List.takeWhile_cons_of_neg]
      · rfl
      · unfold above
        rw [decide_eq_true_eq]
        omega
    · rw [if_neg e]
      have hl : m + (k :: r).length = m + 1 + r.length := by rw [List.length_cons]; omega
      rw [hl]
      refine ⟨?_, by omega⟩
      rw [List.takeWhile_cons_of_pos (by unfold above; rw [decide_eq_true_eq]; omega), ih]
      obtain ⟨c, hc⟩ : ∃ c, (begs d r (m + 1)).head?.getD (m + 1 + r.length) - m = c + 1 := ⟨(begs d r (m + 1)).head?.getD (m + 1 + r.length) - m - 1, by omega⟩
      rw [hc, List.take_succ_cons]
      congr 2
      omega
theorem begs_range {d : Nat} : ∀ (l : List KR) (m : Nat), (begs d l m).map (fun i => V.int (i : Nat)) = ((List.range' m l.length).filter fun i => decide (((l[i - m]?).getD default).dp = d)).map fun i => V.int (i : Nat)
  | [], m => rfl
  | k :: r, m => by
    rw [List.length_cons, List.range'_succ, List.filter_cons]
    have ih := begs_range (d := d) r (m + 1)
    have e2 : ((List.range' (m + 1) r.length).filter fun i => decide ((((k :: r)[i - m]?).getD default).dp = d)) = ((List.range' (m + 1) r.length).filter fun i => decide (((r[i - (m + 1)]?).getD default).dp = d)) := by
      apply List.filter_congr
      intro x hx
      have hx1 := (List.mem_range'_1.mp hx).1
      obtain ⟨c, hc⟩ : ∃ c, x - m = c + 1 := ⟨x - m - 1, by omega⟩
      rw [hc, List.getElem?_cons_succ, show x - (m + 1) = c by omega]
    unfold begs
    rw [Nat.sub_self, List.getElem?_cons_zero, Option.getD_some, e2]
    by_cases e : k.dp = d
    · rw [if_pos e, if_pos (decide_eq_true e), List.map_cons, List.map_cons, ih]
    · rw [if_neg e, if_neg (by rw [decide_eq_false e]; decide), ih]
theorem begs_given {d : Nat} (l : List KR) : Evl.given l.length (fun i => decide (((l[i]?).getD default).dp = d)) (fun i => V.int (i : Nat)) = (begs d l 0).map fun i => V.int (i : Nat) := by
  rw [begs_range l 0, ← List.range_eq_range']
  rfl
theorem begs_len {d : Nat} : ∀ (l : List KR) (m : Nat), (begs d l m).length ≤ l.length
  | [], _ => Nat.le_refl _
  | k :: r, m => by
    have ih := begs_len (d := d) r (m + 1)
    unfold begs
    split
    · rw [List.length_cons, List.length_cons]
      omega
    · rw [List.length_cons]
      omega
/-! ### slices -/
theorem cut_from {xs : List V} {k : Nat} (h : k ≤ xs.length) : cutV xs (some (k : Int)) none = xs.drop k := by
  unfold cutV
  rw [HT.sIx_nat, HT.sIx_none, Nat.min_eq_left h]
  exact List.take_of_length_le (by rw [List.length_drop]; exact Nat.le_refl _)
theorem cut_both {xs : List V} {k e : Nat} (h : k ≤ xs.length) (h2 : e ≤ xs.length) : cutV xs (some (k : Int)) (some (e : Int)) = (xs.drop k).take (e - k) := by
  unfold cutV
  rw [HT.sIx_nat, HT.sIx_nat, Nat.min_eq_left h, Nat.min_eq_left h2]
theorem cut_one (xs : List V) : cutV xs (some 1) none = xs.drop 1 := by
  cases xs with
  | nil => rfl
  | cons x r => exact cut_from (k := 1) (by rw [List.length_cons]; omega)
theorem ends_at {bs : List Nat} {L j : Nat} (h : j < bs.length) : ((bs.drop 1).map (fun i => V.int (i : Nat)) ++ [V.int (L : Nat)])[j]? = some (.int (((bs.drop (j + 1)).head?.getD L : Nat) : Int)) := by
  rw [List.head?_drop]
  rcases Nat.lt_or_ge (j + 1) bs.length with c | c
  · rw [List.getElem?_append_left (by rw [List.length_map, List.length_drop]; omega), List.getElem?_map, List.getElem?_drop, Nat.add_comm 1 j, List.getElem?_eq_getElem c]
    rfl
  · rw [List.getElem?_append_right (by rw [List.length_map, List.length_drop]; omega), List.length_map, List.length_drop, List.getElem?_eq_none c, show j - (bs.length - 1) = 0 by omega]
    rfl
theorem begs_lt {d : Nat} : ∀ (l : List KR) (m x : Nat), x ∈ begs d l m → x < m + l.length
  | [], m, x, h => by cases h
  | k :: r, m, x, h => by
    unfold begs at h
    rw [List.length_cons]
    by_cases e : k.dp = d
    · rw [if_pos e] at h
      rcases List.mem_cons.mp h with q | q
      · omega
      · have := begs_lt r (m + 1) x q
        omega
    · rw [if_neg e] at h
      have := begs_lt r (m + 1) x h
      omega
end K56
set_option Elab.async false
set_option linter.all false
set_option maxRecDepth 100000
set_option maxHeartbeats 4000000
/-! K56, part B2: comprehensions over enumerate, loops over zip; rules as objects. -/
namespace K56
open PySem PySem.W PyProof.Rows L2 Evl He
section
variable {K : Frag} {σ : L2.St} {H : Hp} {D : Ends} {ta : TA} {tu tz : TS} {g : TG} {t : TT} {te : TE}
theorem cw_mono {H H' H2 : Hp} {f : Nat → Bool} {v : Nat → V} {Dl : Addr} {i : Nat} (p : Cw H f v Dl i H') (e : Ex H' H2) : Cw H f v Dl i H2 := ⟨p.1, p.2.1.trans e, e _ _ p.2.2⟩
theorem el_lcE {xs : List V} {a : Addr} {i j : Nat} {vs : List Nat} (f : Nat → Bool) (v : Nat → V) (h : EvA ta σ H [.ref a]) (hx : H a = some (.lst xs)) (hz : xs.length ≤ 40000) (hw : ∀ x y, wipe (((wipe σ vs).set i (some x)).set j (some y)) vs = wipe σ vs)
    (ht : ∀ (n : Nat) (x : V) H1, Ex H H1 → xs[n]? = some x → EvT t (((wipe σ vs).set i (some (.int (n : Nat)))).set j (some x)) H1 (f n))
    (he : ∀ (n : Nat) (x : V) H1, Ex H H1 → xs[n]? = some x → f n = true → Ev te (((wipe σ vs).set i (some (.int (n : Nat)))).set j (some x)) H1 (v n)) :
    EvL (tLc (iEnum K ta) (gTup K 2 (gCons (gName i) (gCons (gName j) gNil))) t te vs) σ H (Evl.given xs.length f v) := fun H0 e Q q => h H0 e _ fun H1 e1 => ⟨a, xs, rfl, sq_of ((e.trans e1) a _ hx), fun Dl hD =>
  lc_enumL (xs := xs) (Cw H1 f v Dl) ⟨hD, Ex.new hD, upd_same⟩ (fun i H' _ p => sq_of (p.2.1 a _ ((e.trans e1) a _ hx)))
    (fun n x T H' hi p hT => g_two upd_same ⟨hw _ _, cw_turn (cw_mono p (Ex.new hT)) (by have := (List.getElem?_eq_some_iff.mp hi).1; omega) (ht n x H1 (e.trans e1) hi) (fun hf => he n x H1 (e.trans e1) hi hf)⟩)
    (fun H' p => q Dl H' (fresh_back e1 p.1) (e1.trans p.2.1) p.2.2)⟩
theorem for_zipLE {a b : Addr} {xs ys : List V} {tb : TS} (hl : xs.length ≤ ys.length) (Pv : Nat → L2.St → Hp → Prop) (h0 : Pv 0 σ H) (hq : ∀ i σ H, Pv i σ H → SqL K H a xs ∧ SqL K H b ys)
    (hs : ∀ (i : Nat) (x y : V) (T : Addr) (σ : L2.St) (H : Hp), xs[i]? = some x → ys[i]? = some y → Pv i σ H → H T = none → g (.ref T) σ (upd H T (.tup [x, y])) fun σ2 H2 => tb { D with nx := Pv (i + 1), ct := Pv (i + 1), bk := D.nx } σ2 H2) (hd : ∀ σ H, Pv xs.length σ H → D.nx σ H) :
    ∃ W : Nat → Nat → L2.St → Hp → Prop, (∃ m, W 0 m σ H) ∧ ∀ i m σ H, W i m σ H →
      ((Itz K a b).stop i H ∧ D.nx σ H) ∨ ((Itz K a b).go i H ∧ ∃ N : L2.St → Hp → Prop, (∀ σ' H', N σ' H' → ∃ m', m' < m ∧ W (i + 1) m' σ' H') ∧ ∀ v H', (Itz K a b).yld i H v H' → g v σ H' fun σ2 H2 => tb { D with nx := N, ct := N, bk := D.nx } σ2 H2) := by
  refine ⟨fun i m σ H => m = xs.length - i ∧ i ≤ xs.length ∧ Pv i σ H, ⟨xs.length, rfl, Nat.zero_le _, h0⟩, ?_⟩
  rintro i m σ H ⟨rfl, hi, p⟩
  obtain ⟨q1, q2⟩ := hq i σ H p
  rcases Nat.lt_or_ge i xs.length with c | c
  · refine .inr ⟨⟨xs, ys, _, _, q1, q2, List.getElem?_eq_getElem c, List.getElem?_eq_getElem (Nat.lt_of_lt_of_le c hl)⟩, Pv (i + 1), fun σ' H' p' => ⟨_, by omega, rfl, c, p'⟩, ?_⟩
    rintro v H' ⟨T, x, y, rfl, hT, rfl, f1, f2⟩
    exact hs i x y T σ H (f1 xs q1) (f2 ys q2) p hT
  · have e : i = xs.length := Nat.le_antisymm hi c
    rw [e] at p
    exact .inl ⟨⟨xs, ys, q1, q2, .inl c⟩, hd σ H p⟩
theorem q_forZ {xs ys : List V} {a : Addr} (hl : xs.length ≤ ys.length) (h : ∀ Q : List V → Hp → Prop, (∀ b H1, Ex H H1 → H1 a = some (.lst xs) → H1 b = some (.lst ys) → Q [.ref a, .ref b] H1) → ta σ H Q) (Pv : Addr → Nat → L2.St → Hp → Prop)
    (h0 : ∀ b H1, Ex H H1 → H1 a = some (.lst xs) → H1 b = some (.lst ys) → Pv b 0 σ H1) (hq : ∀ b i σ' H', Pv b i σ' H' → H' a = some (.lst xs) ∧ H' b = some (.lst ys))
    (hs : ∀ b i x y T σ' H' H2, xs[i]? = some x → ys[i]? = some y → Pv b i σ' H' → Ex H' H2 → H2 T = some (.tup [x, y]) → g (.ref T) σ' H2 fun σ2 H3 => tu { D with nx := Pv b (i + 1), ct := Pv b (i + 1), bk := tz D } σ2 H3)
    (hd : ∀ b σ' H', Pv b xs.length σ' H' → tz D σ' H') : tSeq (tFor (iZip K ta) g tu) tz D σ H :=
  h _ fun b H1 e1 ha hb => ⟨a, b, xs, ys, rfl, sq_of ha, sq_of hb, for_zipLE (D := { D with nx := tz D }) hl (Pv b) (h0 b H1 e1 ha hb) (fun i σ' H' p => ⟨sq_of (hq b i σ' H' p).1, sq_of (hq b i σ' H' p).2⟩)
    (fun i x y T σ' H' hx hy p hT => hs b i x y T σ' H' _ hx hy p (Ex.new hT) upd_same) (hd b)⟩
end
section
variable {K : Frag} {σ : L2.St} {H : Hp} {D : Ends} {ta : TA} {tu tz : TS} {g : TG}
/-- for i, x in enumerate(a new list) -/
theorem q_forEN {xs : List V} (h : ∀ Q : List V → Hp → Prop, (∀ a H1, H a = none → Ex H H1 → H1 a = some (.lst xs) → Q [.ref a] H1) → ta σ H Q) (Pv : Addr → Nat → L2.St → Hp → Prop) (h0 : ∀ a H1, H a = none → Ex H H1 → H1 a = some (.lst xs) → Pv a 0 σ H1)
    (hl : ∀ a n σ' H', Pv a n σ' H' → H' a = some (.lst xs)) (hs : ∀ a n x σ' H' T H2, xs[n]? = some x → Pv a n σ' H' → Ex H' H2 → H2 T = some (.tup [.int (n : Nat), x]) → g (.ref T) σ' H2 fun σ2 H3 => tu { D with nx := Pv a (n + 1), ct := Pv a (n + 1), bk := tz D } σ2 H3)
    (hd : ∀ a σ' H', Pv a xs.length σ' H' → tz D σ' H') : tSeq (tFor (iEnum K ta) g tu) tz D σ H :=
  h _ fun a H1 na e1 ha => ⟨a, xs, rfl, sq_of ha, for_enumL (D := { D with nx := tz D }) (Pv a) (h0 a H1 na e1 ha) (fun i σ' H' _ p => sq_of (hl a i σ' H' p)) (fun i x T σ' H' hx p hT => hs a i x σ' H' T _ hx p (Ex.new hT) upd_same) (hd a)⟩
end
theorem go_sl {K : Frag} {σ : L2.St} {H : Hp} {te : TE} {tl th : TO} {a : Addr} {xs : List V} {lo hi : Option Int} {Q : VK} (h : Ev te σ H (.ref a)) (h1 : EvO tl σ H lo) (h2 : EvO th σ H hi) (hs : SqL K H a xs)
    (k : ∀ p H1, H p = none → Ex H H1 → H1 p = some (.lst (cutV xs lo hi)) → Q (.ref p) H1) : tSl (rSlL K) te tl th σ H Q := el_sl h h1 h2 hs H (Ex.refl H) Q k
section
variable {σ : L2.St} {H : Hp} {D : Ends} {ta : TA} {te : TE} {tz : TS} {i j l : Nat} {sp : Sp} {E : XK}
theorem op_par (h : ta σ H fun vs H1 => ∃ v u, vs = [v, u] ∧ tz D ((σ.set i (some v)).set j (some u)) H1) : tSeq (tPar i j ta) tz D σ H := h
theorem op_cons {Q : List V → Hp → Prop} (h : te σ H fun x H1 => ta σ H1 fun xs H2 => Q (x :: xs) H2) : tCons te ta σ H Q := h
theorem op_k {Q : VK} (h : ta σ H fun vs H1 => sp vs H1 Q E) : tK sp E ta σ H Q := h
theorem op_asg {g : TG} (h : te σ H fun x H1 => g x σ H1 (tz D)) : tSeq (tAsg te g) tz D σ H := h
theorem op_ret (h : te σ H D.rt) : tRet te D σ H := h
end
/-! ### rules as objects -/
def RulesAt (K : Frag) (H : Hp) : Fo → List V → Prop
  | .nil, vs => vs = []
  | .cons k i r, vs => ∃ a dx c ia is rest, vs = .ref a :: rest ∧ H a = some (.ins (ga K "Rule") dx [("own_name", .str k.nm), ("own_condition", .ref c), ("own_ruling", .str k.ru), ("inner", .ref ia)]) ∧ CondAt K H c k.ho k.fa ∧
    H ia = some (.tup is) ∧ RulesAt K H i is ∧ RulesAt K H r rest
theorem RulesAt.mono {K : Frag} {H H' : Hp} (e : Ex H H') : ∀ {f : Fo} {vs : List V}, RulesAt K H f vs → RulesAt K H' f vs
  | .nil, vs, h => h
  | .cons k i r, vs, h => by
    obtain ⟨a, dx, c, ia, is, rest, h1, h2, h3, h4, h5, h6⟩ := h
    exact ⟨a, dx, c, ia, is, rest, h1, e a _ h2, h3.mono e, e ia _ h4, RulesAt.mono e h5, RulesAt.mono e h6⟩
theorem RulesAt.app {K : Frag} {H : Hp} : ∀ {f g : Fo} {vs ws : List V}, RulesAt K H f vs → RulesAt K H g ws → RulesAt K H (f.app g) (vs ++ ws)
  | .nil, g, vs, ws, h, h2 => by
    have : vs = [] := h
    rw [this]
    exact h2
  | .cons k i r, g, vs, ws, h, h2 => by
    obtain ⟨a, dx, c, ia, is, rest, h1, h3, h4, h5, h6, h7⟩ := h
    exact ⟨a, dx, c, ia, is, rest ++ ws, by rw [h1]; rfl, h3, h4, h5, h6, RulesAt.app h7 h2⟩
theorem RulesAt.len {K : Frag} {H : Hp} : ∀ {f : Fo} {vs : List V}, RulesAt K H f vs → vs.length = f.data.length
  | .nil, vs, h => by
    have : vs = [] := h
    rw [this]
    rfl
  | .cons k i r, vs, h => by
    obtain ⟨a, dx, c, ia, is, rest, h1, h3, h4, h5, h6, h7⟩ := h
    rw [h1]
    show rest.length + 1 = r.data.length + 1
    rw [RulesAt.len h7]
theorem ex_updL {H : Hp} {l a : Addr} {xs : List V} {o u : HO} (h : H l = some (.lst xs)) (ha : H a = some u) (hu : ∀ ys, u ≠ .lst ys) : upd H l o a = some u := by
  rw [upd_ne]
  · exact ha
  · intro e
    rw [e, h] at ha
    exact hu xs (Option.some.inj ha).symm
theorem CondAt.updL {K : Frag} {H : Hp} {l c : Addr} {xs : List V} {o : HO} {h f : List Str} (hl : H l = some (.lst xs)) (C : CondAt K H c h f) : CondAt K (upd H l o) c h f := by
  obtain ⟨dx, a, b, h1, h2, h3⟩ := C
  exact ⟨dx, a, b, ex_updL hl h1 (fun _ z => nomatch z), ex_updL hl h2 (fun _ z => nomatch z), ex_updL hl h3 (fun _ z => nomatch z)⟩
theorem RulesAt.updL {K : Frag} {H : Hp} {l : Addr} {xs : List V} {o : HO} (hl : H l = some (.lst xs)) : ∀ {f : Fo} {vs : List V}, RulesAt K H f vs → RulesAt K (upd H l o) f vs
  | .nil, vs, h => h
  | .cons k i r, vs, h => by
    obtain ⟨a, dx, c, ia, is, rest, h1, h2, h3, h4, h5, h6⟩ := h
    exact ⟨a, dx, c, ia, is, rest, h1, ex_updL hl h2 (fun _ z => nomatch z), h3.updL hl, ex_updL hl h4 (fun _ z => nomatch z), RulesAt.updL hl h5, RulesAt.updL hl h6⟩
/-! ### a target that is no name -/
section
variable {σ : L2.St} {H : Hp} {te : TE} {v : V} {g : TG} {D : Ends} {tz : TS}
theorem q_asgG (h : Ev te σ H v) (k : ∀ H1, Ex H H1 → g v σ H1 (tz D)) : tSeq (tAsg te g) tz D σ H := h H (Ex.refl H) _ k
theorem s_asgG (h : Ev te σ H v) (k : ∀ H1, Ex H H1 → g v σ H1 D.nx) : tAsg te g D σ H := h H (Ex.refl H) _ k
end
/-! ### lists put together -/
section
variable {σ : L2.St} {H : Hp} {ta tb : TE} {xs ys : List V}
theorem el_catNN (ha : EvL ta σ H xs) (hb : EvL tb σ H ys) (hz : xs.length + ys.length ≤ 100000) : EvL (tOp rCat ta tb) σ H (xs ++ ys) := fun H1 e Q q =>
  ha H1 e _ fun p H2 hp e2 h2 => hb H2 (e.trans e2) _ fun p' H3 hp' e3 h3 => ⟨p, p', xs, ys, rfl, rfl, e3 p _ h2, h3, sz_of hz, fun r hr => q r _ (fresh_back (e2.trans e3) hr) ((e2.trans e3).trans (Ex.new hr)) upd_same⟩
theorem el_catVN {a : Addr} (ha : Ev ta σ H (.ref a)) (h : H a = some (.lst xs)) (hb : EvL tb σ H ys) (hz : xs.length + ys.length ≤ 100000) : EvL (tOp rCat ta tb) σ H (xs ++ ys) := fun H1 e Q q =>
  ha H1 e _ fun H2 e2 => hb H2 (e.trans e2) _ fun p' H3 hp' e3 h3 => ⟨a, p', xs, ys, rfl, rfl, ((e.trans e2).trans e3) a _ h, h3, sz_of hz, fun r hr => q r _ (fresh_back (e2.trans e3) hr) ((e2.trans e3).trans (Ex.new hr)) upd_same⟩
/-- a list, or another, by a test -/
theorem el_if {t : TT} {b : Bool} (h : EvT t σ H b) (h1 : b = true → EvL ta σ H xs) (h2 : b = false → EvL tb σ H xs) : EvL (tIf t ta tb) σ H xs := fun H1 e Q q => h H1 e _ fun H2 e2 => by
  cases b with
  | true =>
    show ta σ H2 Q
    exact h1 rfl H2 (e.trans e2) Q fun p H3 hp e3 h3 => q p H3 (fresh_back e2 hp) (e2.trans e3) h3
  | false =>
    show tb σ H2 Q
    exact h2 rfl H2 (e.trans e2) Q fun p H3 hp e3 h3 => q p H3 (fresh_back e2 hp) (e2.trans e3) h3
end
/-! ### data: ints, texts, tuples -/
mutual
inductive Dt (H : Hp) : V → PyData → Prop
  | int (i : Int) : Dt H (.int i) (.int i)
  | str (z : Str) : Dt H (.str z) (.str z)
  | tup {a : Addr} {xs : List V} {ds : List PyData} : H a = some (.tup xs) → DtAll H xs ds → Dt H (.ref a) (.tuple ds)
inductive DtAll (H : Hp) : List V → List PyData → Prop
  | nil : DtAll H [] []
  | cons {v : V} {vs : List V} {d : PyData} {ds : List PyData} : Dt H v d → DtAll H vs ds → DtAll H (v :: vs) (d :: ds)
end
mutual
theorem Dt.keep {H H' : Hp} (e : ∀ a xs, H a = some (.tup xs) → H' a = some (.tup xs)) : ∀ {v : V} {d : PyData}, Dt H v d → Dt H' v d
  | _, _, .int i => .int i
  | _, _, .str z => .str z
  | _, _, .tup h r => .tup (e _ _ h) (DtAll.keep e r)
theorem DtAll.keep {H H' : Hp} (e : ∀ a xs, H a = some (.tup xs) → H' a = some (.tup xs)) : ∀ {vs : List V} {ds : List PyData}, DtAll H vs ds → DtAll H' vs ds
  | _, _, .nil => .nil
  | _, _, .cons h r => .cons (Dt.keep e h) (DtAll.keep e r)
end
theorem Dt.mono {H H' : Hp} {v : V} {d : PyData} (h : Dt H v d) (e : Ex H H') : Dt H' v d := h.keep fun a xs q => e a _ q
theorem DtAll.mono {H H' : Hp} {v : List V} {d : List PyData} (h : DtAll H v d) (e : Ex H H') : DtAll H' v d := h.keep fun a xs q => e a _ q
theorem DtAll.updL {H : Hp} {l : Addr} {xs : List V} {o : HO} {v : List V} {d : List PyData} (hl : H l = some (.lst xs)) (h : DtAll H v d) : DtAll (upd H l o) v d := h.keep fun a ys q => ex_updL hl q fun _ z => nomatch z
theorem Dt.updL {H : Hp} {l : Addr} {xs : List V} {o : HO} {v : V} {d : PyData} (hl : H l = some (.lst xs)) (h : Dt H v d) : Dt (upd H l o) v d := h.keep fun a ys q => ex_updL hl q fun _ z => nomatch z
theorem DtAll.app {H : Hp} : ∀ {v : List V} {d : List PyData} {v2 : List V} {d2 : List PyData}, DtAll H v d → DtAll H v2 d2 → DtAll H (v ++ v2) (d ++ d2)
  | _, _, _, _, .nil, h => h
  | _, _, _, _, .cons a r, h => .cons a (DtAll.app r h)
theorem DtAll.len {H : Hp} : ∀ {v : List V} {d : List PyData}, DtAll H v d → v.length = d.length
  | _, _, .nil => rfl
  | _, _, .cons a r => congrArg (· + 1) (DtAll.len r)
theorem dt_strs {H : Hp} : ∀ ws : List Str, DtAll H (ws.map V.str) (ws.map PyData.str)
  | [] => .nil
  | z :: r => .cons (.str z) (dt_strs r)
theorem dt_tupS {H : Hp} {a : Addr} {ws : List Str} (h : ST H a ws) : Dt H (.ref a) (tupS ws) := .tup h (dt_strs ws)
/-! ### a def whose promise asks what cannot be -/
theorem OkF.vac {P : Program} {w : World} {K : Frag} {mg : Str → Option Value} {base : Heap} {CX : CXT} {k : Nat} {nm q : Str} {st : Stmt} {f : Addr} {ps : List Str} {sp : Sp} (hF : ∃ fd, Fun K nm q st f fd)
    (hbd : ∀ (kV doc pm : Value) (an : Option Addr) (cdv ct : Value) (us : List Value), us.length = ps.length → bindArgs (fnOf nm q (defArgs st) (defBody st) (defScope st) .none kV doc pm an cdv ct) ⟨us, []⟩ = pure (ps.zip us))
    (no : ∀ vs H Q E, ¬ sp vs H Q E) : OkF P w K mg base CX k f ps sp := by
  obtain ⟨fd, F⟩ := hF
  exact ⟨⟨fd, ⟨fun vs H Q E h => absurd h (no vs H Q E), fun A outer s H args us vs Q E _ _ _ _ h => absurd h (no vs H Q E)⟩, F.binds hbd⟩, F.kp⟩
end K56
set_option Elab.async false
set_option linter.all false
set_option maxRecDepth 100000
set_option maxHeartbeats 4000000
/-! K56, part D6: rules made of the rows. -/
namespace K56
open PySem PySem.W PyProof.Rows L2 Evl He
section
variable {P : Program} {w : World} {K : Frag} {mg : Str → Option Value} {base : Heap}
def RuleIns (K : Frag) (H : Hp) (x : Addr) (nm : Str) (c : Addr) (ru : Str) (ia : Addr) : Prop := ∃ dx, H x = some (.ins (ga K "Rule") dx [("own_name", .str nm), ("own_condition", .ref c), ("own_ruling", .str ru), ("inner", .ref ia)])
def spRuleI (K : Frag) : Sp := fun vs H Q _ => ∃ (x c ia dx : Addr) (nm ru : Str) (F : Hp), vs = [.ref x, .str nm, .ref c, .str ru, .ref ia] ∧ H x = some (.ins (ga K "Rule") dx []) ∧ Ex F H ∧ F x = none ∧ isName nm = true ∧ isName ru = true ∧
  ∀ H', Ex F H' → RuleIns K H' x nm c ru ia → Q .non H'
theorem sc_Rule_init : FnScope ["self", "name", "condition", "ruling", "exceptions"] ["self", "name", "condition", "ruling", "exceptions"] (defScope sRuleI) := ⟨rfl, rfl, rfl, by decide +kernel, rfl, by decide +kernel, by decide +kernel⟩
theorem ok_Rule_init (T : TX P K mg) : OkF P w K mg base CX0 (1 + 1) (ma K (ga K "Rule") "__init__") ["self", "name", "condition", "ruling", "exceptions"] (spRuleI K) := by
  refine OkF.mk0 T.d_Rule_init sc_Rule_init (fun _ _ _ _ _ _ us hl => match us, hl with | [_, _, _, _, _], _ => rfl) (fun vs H Q E h => ?_) (fun cdv A outs s H vs Q E hr h => ?_)
  · obtain ⟨_, _, _, _, _, _, _, rfl, _⟩ := h; rfl
  obtain ⟨x, c, ia, dx, nm, ru, F, rfl, hx, eF, fx, hn, hr2, q⟩ := h
  refine ⟨_, (pss_cons (ps_if (pt_not (pt_val (pe_c (ok_is_name T) hr (by omega) T.g_is_name (E := E0) passN (pa_cons (pv 1) pa_nil)))) (pss_one ps_never) pss_nil)
      (pss_cons (ps_if (pt_not (pt_val (pe_c (ok_is_name T) hr (by omega) T.g_is_name (E := E0) passN (pa_cons (pv 3) pa_nil)))) (pss_one ps_never) pss_nil)
      (pss_cons (ps_fld (pv 0) (pv 1) rfl)
      (pss_cons (ps_fld (pv 0) (pv 2) rfl)
      (pss_cons (ps_fld (pv 0) (pv 3) rfl)
      (pss_one (ps_fld (pv 0) (pv 4) rfl))))))), ?_⟩
  have hnl := name_le hn
  have hrl := name_le hr2
  refine q_when (b := false) (et_is (et_not (et_B (ev_name (ev_var rfl) (by omega)))) (by rw [hn]; rfl)) (fun hb => nomatch hb) (fun _ H1 e1 => ?_)
  refine q_when (b := false) (et_is (et_not (et_B (ev_name (ev_var rfl) (by omega)))) (by rw [hr2]; rfl)) (fun hb => nomatch hb) (fun _ H2 e2 => ?_)
  refine ⟨_, rfl, _, rfl, x, _, dx, _, rfl, (e1.trans e2) x _ hx, T.c_Rule, T.n_own_name, by decide, ?_⟩
  refine ⟨_, rfl, _, rfl, x, _, dx, _, rfl, upd_same, T.c_Rule, T.n_own_condition, by show 1 < 1000; decide, ?_⟩
  refine ⟨_, rfl, _, rfl, x, _, dx, _, rfl, upd_same, T.c_Rule, T.n_own_ruling, by show 2 < 1000; decide, ?_⟩
  refine ⟨_, rfl, _, rfl, x, _, dx, _, rfl, upd_same, T.c_Rule, T.n_inner, by show 3 < 1000; decide, ?_⟩
  exact q _ ((((((eF.trans e1).trans e2).mut fx).mut fx).mut fx).mut fx) ⟨dx, by rw [upd_same]; rfl⟩
def spRulesOf (K : Frag) (n : Nat) : Sp := fun vs H Q _ => ∃ (ra : Addr) (xs : List V) (ks : List KR) (d : Nat), vs = [.ref ra, .int d] ∧ H ra = some (.lst xs) ∧ All2 (KAt K H) xs ks ∧ ks.length ≤ 60 ∧
  (∀ k ∈ ks, d ≤ k.dp ∧ k.dp ≤ 5 ∧ isName k.nm = true ∧ isName k.ru = true) ∧ 7 ≤ n + d ∧ d ≤ 6 ∧ ∀ a H' vs', Ex H H' → H' a = some (.tup vs') → RulesAt K H' (nest n d ks) vs' → Q (.ref a) H'
theorem sc_rules_of : FnScope ["rows", "depth", "found", "begins", "begin", "end", "own_depth", "name", "condition", "ruling", "number", "row"] ["rows", "depth"] (defScope sRulesOf) := ⟨rfl, rfl, rfl, by decide +kernel, rfl, by decide +kernel, by decide +kernel⟩
theorem ok_rules_of_step (T : TX P K mg) {n : Nat} (G_rules_of : OkF P w K mg base CX0 (5 + n) (ga K "rules_of") ["rows", "depth"] (spRulesOf K n)) : OkF P w K mg base CX0 (5 + n + 1) (ga K "rules_of") ["rows", "depth"] (spRulesOf K (n + 1)) := by
  refine OkF.mk0 T.d_rules_of sc_rules_of (fun _ _ _ _ _ _ us hl => match us, hl with | [_, _], _ => rfl) (fun vs H Q E h => ?_) (fun cdv A outs s H vs Q E hr h => ?_)
  · obtain ⟨_, _, _, _, rfl, _⟩ := h; rfl
  obtain ⟨ra, xs, ks, d, rfl, hK, hA, h60, hok, hn, hd6, q⟩ := h
  refine ⟨_, (pss_cons (ps_set (i := 2) sc_rules_of.nd rfl (Or.inl rfl) (pe_lst pa_nil))
      (pss_cons (ps_setLc (i := 3) (own := [("number", 10), ("row", 11)]) (g := (gTup K 2 (gCons (gName 10) (gCons (gName 11) gNil)))) rfl sc_rules_of.nd rfl rfl (sw_true rfl rfl rfl (by decide +kernel)) (pi_enum (by rfl) T.b_enumerate (pa_cons (pv 0) pa_nil)) (blkOk_by (own := [("number", 10), ("row", 11)]) (N := ["rows", "depth", "found", "begins", "begin", "end", "own_depth", "name", "condition", "ruling", "number", "row"]) (sc := defScope sRulesOf) (by decide +kernel)) (fun _ _ _ _ _ => (pg_tup rfl (pgs_cons (pg_name (i := 10) sc_rules_of.nd rfl (Or.inl rfl) (.inr (by rfl))) (pgs_cons (pg_name (i := 11) sc_rules_of.nd rfl (Or.inl rfl) (.inr (by rfl))) pgs_nil)))) (fun _ _ _ _ _ => pts_one (pt_cmpR op_eq (pe_ix (show IxR _ (rIxT K) from ix_tup) (pv 11) pe_int (fun _ _ => rfl)) (pv 1) (nomark _))) (fun _ _ _ _ _ => (pv 10)))
      (pss_cons (ps_for PassesOwn.never rfl (pi_zip (by rfl) T.b_zip (pa_cons (pv 3) (pa_cons (pe_op op_cat (pe_slice sl_list (pv 3) (po_some pe_int) po_none) (pe_lst (pa_cons (pe_callB call_len_seq (by rfl) T.b_len PySem.boot_len (pa_cons (pv 0) pa_nil)) pa_nil))) pa_nil))) (pg_tup rfl (pgs_cons (pg_name (i := 4) sc_rules_of.nd rfl (Or.inl rfl)) (pgs_cons (pg_name (i := 5) sc_rules_of.nd rfl (Or.inl rfl)) pgs_nil))) (pss_cons (ps_asg (pe_ix ix_list (pv 0) (pv 4) (fun _ _ => rfl)) (pg_tup rfl (pgs_cons (pg_name (i := 6) sc_rules_of.nd rfl (Or.inl rfl)) (pgs_cons (pg_name (i := 7) sc_rules_of.nd rfl (Or.inl rfl)) (pgs_cons (pg_name (i := 8) sc_rules_of.nd rfl (Or.inl rfl)) (pgs_cons (pg_name (i := 9) sc_rules_of.nd rfl (Or.inl rfl)) pgs_nil))))))
      (pss_one (ps_expr (pe_bm PySem.F.plainAttrs_list PySem.F.slot_list_append PySem.F.type_list_append mt_append (pv 2) (pa_cons (pe_mk T.k_Rule (ok_Rule_init T) hr (by omega) T.g_Rule (E := E0) passN (pa_cons (pv 7) (pa_cons (pv 8) (pa_cons (pv 9) (pa_cons (pe_c G_rules_of hr (by omega) T.g_rules_of (E := E0) passN (pa_cons (pe_slice sl_list (pv 0) (po_some (pe_op op_add (pv 4) pe_int)) (po_some (pv 5))) (pa_cons (pe_op op_add (pv 1) pe_int) pa_nil))) pa_nil))))) pa_nil))))))
      (pss_one (ps_ret (pe_callTy call_tuple_of (by rfl) T.b_tuple (by decide +kernel) (pa_cons (pv 2) pa_nil))))))), ?_⟩
  have hxl : xs.length = ks.length := hA.1
  refine q_asgL el_nil fun l H0 hl e0 hL0 => ?_
  refine q_asgL (xs := (begs d ks 0).map fun i => V.int (i : Nat)) ?_ fun bl H1 hbl e1 hB1 => ?_
  · have := el_lcE (K := K) (σ := [some (.ref ra), some (.int d), some (.ref l), none, none, none, none, none, none, none, none, none]) (t := tTest (tOp rEq (tOp (rIxT K) (tVar 11) (tC (.int 0))) (tVar 1))) (te := tVar 10) (vs := [10, 11]) (i := 10) (j := 11)
      (fun i => decide ((ks[i]?.getD default).dp = d)) (fun i => V.int (i : Nat)) (ea_cons (ev_var (i := 0) rfl) ea_nil) (e0 ra _ hK) (by omega) (fun x y => rfl) (fun i v H1 e1 hv => ?_) (fun i v H1 e1 hv hf => ?_)
    · rw [hxl, begs_given] at this
      exact this
    · obtain ⟨k, hk, t, c, rfl, h1, h2⟩ := hA.getV hv
      rw [hk]
      refine et_is (et_test (ev_op (ev_op (ev_var rfl) ev_c (rv_ixT (st_of (e1 _ _ (e0 _ _ h1))) (at_eq (atI_nat (j := 0) rfl) rfl))) (ev_var rfl) rv_eqi)) ?_
      show decide ((k.dp : Int) = (d : Int)) = decide (k.dp = d)
      rw [Bool.eq_iff_iff, decide_eq_true_eq, decide_eq_true_eq]
      omega
    · exact ev_var rfl
  have hbl60 : (begs d ks 0).length ≤ 60 := Nat.le_trans (begs_len ks 0) h60
  have h01 := e0.trans e1
  have nbl : l ≠ bl := ne_of_none hL0 hbl
  refine q_forZ (K := K) (ys := ((begs d ks 0).drop 1).map (fun i => V.int (i : Nat)) ++ [.int (ks.length : Nat)]) (a := bl) (xs := (begs d ks 0).map fun i => V.int (i : Nat)) (by rw [List.length_append, List.length_map, List.length_map, List.length_drop, List.length_singleton]; omega) (fun Q k => ?_)
    (fun b j σ' H' => ∃ A vs' m x4 x5 x6 x7 x8 x9, σ' = [some (.ref ra), some (.int d), some (.ref l), some (.ref bl), x4, x5, x6, x7, x8, x9, none, none] ∧ Ex H H' ∧ H' l = some (.lst vs') ∧ H' bl = some (.lst ((begs d ks 0).map fun i => V.int (i : Nat))) ∧
      H' b = some (.lst (((begs d ks 0).drop 1).map (fun i => V.int (i : Nat)) ++ [.int (ks.length : Nat)])) ∧ b ≠ l ∧ RulesAt K H' A vs' ∧ A.app (nestW (nest n (d + 1)) d (ks.drop m)) = nest (n + 1) d ks ∧ (begs d ks 0).drop j = begs d (ks.drop m) m ∧ m ≤ ks.length ∧ vs'.length = j)
    (fun b H2 e2 h1 h2 => ⟨.nil, [], 0, none, none, none, none, none, none, rfl, h01.trans e2, e2 _ _ (e1 _ _ hL0), h1, h2, fun z => ?_, rfl, rfl, rfl, Nat.zero_le _, rfl⟩) (fun b j σ' H' p => ?_) (fun b j x y U σ' H' H2 hx hy p e2 hU => ?_) (fun b σ' H' p => ?_)
  · refine ⟨_, rfl, ?_⟩
    refine el_catNN (el_sl (ev_var rfl) (eo_some ev_c) eo_none (sq_of hB1)) (el_lst (ea_cons (ev_len (ev_var rfl) (sq_of (h01 _ _ hK))) ea_nil) (by show 1 ≤ 100000; decide)) ?_ H1 (Ex.refl H1) _ fun p H2 hp e2 h2 => k p H2 e2 (e2 _ _ hB1) ?_
    · rw [cut_one, List.length_drop, List.length_map]
      have : ([V.int (xs.length : Nat)] : List V).length = 1 := rfl
      omega
    · rw [h2, cut_one, hxl, List.map_drop]
  · have h3 := (e2 _ _ (e1 _ _ hL0)).symm.trans (z ▸ h2)
    have h4 := congrArg (fun o => match o with
      | some (HO.lst ys) => ys.length
      | _ => 0) h3
    rw [show (match some (HO.lst ([] : List V)) with
      | some (HO.lst ys) => ys.length
      | _ => 0) = 0 from rfl] at h4
    have h5 : 0 = (((begs d ks 0).drop 1).map (fun i => V.int (i : Nat)) ++ [V.int (ks.length : Nat)]).length := h4
    rw [List.length_append, List.length_singleton] at h5
    omega
  · obtain ⟨A, vs', m, x4, x5, x6, x7, x8, x9, a1, a2, a3, a4, a5, a6⟩ := p
    exact ⟨a4, a5⟩
  · obtain ⟨A, vs', m, x4, x5, x6, x7, x8, x9, rfl, a2, a3, a4, a5, a6, a7, a8, a9, a10, a11⟩ := p
    -- where it begins, where it ends
    rw [List.getElem?_map] at hx
    have hjl : j < (begs d ks 0).length := by
      rcases Nat.lt_or_ge j (begs d ks 0).length with c | c
      · exact c
      · rw [List.getElem?_eq_none c] at hx
        cases hx
    obtain ⟨b0, hb0⟩ : ∃ b0, (begs d ks 0)[j]? = some b0 := ⟨_, List.getElem?_eq_getElem hjl⟩
    rw [hb0] at hx
    obtain rfl : x = .int (b0 : Nat) := (Option.some.inj hx).symm
    have hdj : begs d (ks.drop m) m = b0 :: (begs d ks 0).drop (j + 1) := by
      rw [← a9, List.drop_eq_getElem_cons hjl]
      congr 1
      exact Option.some.inj ((List.getElem?_eq_getElem hjl).symm.trans hb0)
    obtain ⟨c1, k0, r0, c2, c3, c4, c5⟩ := begs_cons (f := nest n (d + 1)) _ _ hdj
    rw [List.drop_drop, show m + (b0 - m) = b0 by omega] at c2
    have hb0l : b0 < ks.length := by
      rcases Nat.lt_or_ge b0 ks.length with c | c
      · exact c
      · rw [List.drop_eq_nil_of_le c] at c2
        cases c2
    have hk0 : ks[b0]? = some k0 := by
      have := List.getElem?_drop (xs := ks) (i := b0) (j := 0)
      rw [c2, Nat.add_zero] at this
      exact this.symm
    have hr0 : ks.drop (b0 + 1) = r0 := by
      have := congrArg (List.drop 1) c2
      rw [List.drop_drop] at this
      exact this
    have hr0l : r0.length = ks.length - (b0 + 1) := by rw [← hr0, List.length_drop]
    have hr0d : ∀ k ∈ r0, d ≤ k.dp := fun k hk => (hok k (List.mem_of_mem_drop (hr0.symm ▸ hk))).1
    have htk := begs_take (d := d) r0 (b0 + 1) hr0d
    -- the end
    have hye := hy.symm.trans (ends_at (L := ks.length) hjl)
    obtain ⟨e, he⟩ : ∃ e : Nat, e = ((begs d ks 0).drop (j + 1)).head?.getD ks.length := ⟨_, rfl⟩
    rw [← he] at hye
    obtain rfl : y = .int (e : Nat) := Option.some.inj hye
    have he2 : e ≤ ks.length := by
      rw [he]
      cases q0 : ((begs d ks 0).drop (j + 1)).head? with
      | none => exact Nat.le_refl _
      | some z =>
        have hz := begs_lt ks 0 z (List.mem_of_mem_drop (List.mem_of_mem_head? q0))
        show z ≤ _
        omega
    rw [show b0 + 1 + r0.length = ks.length by omega, ← c5, ← he] at htk
    have hin : (ks.drop (b0 + 1)).take (e - (b0 + 1)) = r0.takeWhile (above d) := by rw [hr0, htk.1]
    refine g_two hU ?_
    obtain ⟨v0, hv0, t0, c0, rfl, hT0, hC0⟩ := hA.get hk0
    have e02 : Ex H H2 := a2.trans e2
    refine q_asgG (ev_op (ev_var rfl) (ev_var rfl) (rv_ixL (sq_of (e02 _ _ hK)) (atI_nat hv0))) fun H3 e3 => g_four (e3 _ _ (e02 _ _ hT0)) ?_
    have e03 := e02.trans e3
    have e23 := e2.trans e3
    refine ⟨_, rfl, .inl ⟨rfl, _, sq_of (e23 _ _ a3)⟩, ?_⟩
    refine ⟨_, rfl, _, rfl, _, rfl, ?_⟩
    refine el_sl (ev_var rfl) (eo_some (ev_op (ev_var rfl) ev_c rv_I0)) (eo_some (ev_var rfl)) (sq_of (e03 _ _ hK)) H3 (Ex.refl H3) _ fun p H4 hp e4 h4 => ?_
    refine (ev_op (ev_var rfl) ev_c rv_I0) H4 (Ex.refl H4) _ fun H5 e5 => ?_
    rw [show cutV xs (some ((b0 : Int) + 1)) (some (e : Int)) = (xs.drop (b0 + 1)).take (e - (b0 + 1)) from cut_both (k := b0 + 1) (by omega) (by omega)] at h4
    have e05 := (e03.trans e4).trans e5
    have e25 := (e23.trans e4).trans e5
    have hk0m : k0 ∈ ks := List.mem_of_getElem? hk0
    refine ⟨p, _, (ks.drop (b0 + 1)).take (e - (b0 + 1)), d + 1, rfl, e5 _ _ h4, ((hA.drop _).take _).mono (fun v k z => z.mono e05), by rw [List.length_take, List.length_drop]; omega, fun k hk => ?_, by omega, by have := (hok k0 hk0m).2.1; omega, fun a H6 vs6 e6 h6 hR6 => ?_⟩
    · have h1 := hok k (List.mem_of_mem_drop (List.mem_of_mem_take hk))
      rw [hin] at hk
      have h2 := List.all_eq_true.mp (List.all_takeWhile (p := above d) (l := r0)) k hk
      exact ⟨of_decide_eq_true h2, h1.2⟩
    intro x dx hx0 hdx ne
    refine ⟨x, c0, a, dx, k0.nm, k0.ru, H6, rfl, upd_same, ex_inst hx0 hdx ne, hx0, (hok k0 hk0m).2.2.1, (hok k0 hk0m).2.2.2, fun H7 e7 hI => ⟨rfl, ?_⟩⟩
    have e27 := (e25.trans e6).trans e7
    have hL7 : H7 l = some (.lst vs') := e27 _ _ a3
    have hbl7 : (begs d ks 0).length ≤ 60 := hbl60
    refine ⟨l, vs', .ref x, rfl, rfl, hL7, sz_lt (by omega), A.app (.cons k0 (nest n (d + 1) (r0.takeWhile (above d))) .nil), vs' ++ [.ref x], b0 + 1, _, _, _, _, _, _, rfl, ?_, upd_same, ?_, ?_, a6, ?_, ?_, ?_, by omega, by rw [List.length_append, a11]; rfl⟩
    · exact (a2.trans e27).mut (show H l = none from hl)
    · rw [upd_ne nbl.symm]
      exact e27 _ _ a4
    · rw [upd_ne a6]
      exact e27 _ _ a5
    · obtain ⟨dx1, hI⟩ := hI
      rw [hin] at hR6
      exact RulesAt.app ((a7.mono e27).updL hL7) ⟨x, dx1, c0, a, vs6, [], rfl, ex_updL hL7 hI (fun _ z => nomatch z), (hC0.mono ((e05.trans e6).trans e7)).updL hL7, ex_updL hL7 (e7 _ _ h6) (fun _ z => nomatch z), (hR6.mono e7).updL hL7, rfl⟩
    · rw [Fo.app_assoc]
      show A.app (.cons k0 (nest n (d + 1) (r0.takeWhile (above d))) (nestW (nest n (d + 1)) d (ks.drop (b0 + 1)))) = _
      rw [hr0, ← c4]
      exact a8
    · rw [c5, hr0]
  · obtain ⟨A, vs', m, x4, x5, x6, x7, x8, x9, rfl, a2, a3, a4, a5, a6, a7, a8, a9, a10, a11⟩ := p
    rw [List.length_map, List.drop_eq_nil_of_le (Nat.le_refl _)] at a9
    rw [begs_nil _ _ a9.symm, Fo.app_nil] at a8
    refine ⟨_, rfl, l, _, rfl, .inl ⟨sq_of a3, fun t ht => ?_⟩⟩
    exact q t _ vs' (a2.trans (Ex.new ht)) upd_same (by rw [← a8]; exact a7.mono (Ex.new ht))
end
end K56
set_option Elab.async false
set_option linter.all false
set_option maxRecDepth 100000
set_option maxHeartbeats 4000000
/-! K56, part D7: properties, what a book tells, the checks of facts. -/
namespace K56
open PySem PySem.W PyProof.Rows L2 Evl He
def Fo.ht : Fo → Nat
  | .nil => 0
  | .cons _ i r => max (1 + i.ht) r.ht
def Fo.sz : Fo → Nat
  | .nil => 0
  | .cons _ i r => 1 + i.sz + r.sz
theorem Fo.sz_len : ∀ f : Fo, f.data.length ≤ f.sz
  | .nil => Nat.le_refl _
  | .cons k i r => by
    show r.data.length + 1 ≤ 1 + i.sz + r.sz
    have := r.sz_len
    omega
theorem nestW_ht {f : List KR → Fo} {d n : Nat} (h : ∀ l, (f l).ht ≤ n) : ∀ l, (nestW f d l).ht ≤ n + 1
  | [] => Nat.zero_le _
  | k :: r => by
    unfold nestW
    split
    · show max (1 + (f _).ht) (nestW f d r).ht ≤ _
      have := h (r.takeWhile fun x => decide (d < x.dp))
      have := nestW_ht h (d := d) r
      omega
    · exact nestW_ht h r
theorem nest_ht : ∀ (n d : Nat) (l : List KR), (nest n d l).ht ≤ n
  | 0, _, _ => Nat.le_refl _
  | n + 1, d, l => nestW_ht (nest_ht n (d + 1)) l
section
variable {P : Program} {w : World} {K : Frag} {mg : Str → Option Value} {base : Heap}
theorem ok_rules_of (T : TX P K mg) : ∀ n : Nat, OkF P w K mg base CX0 (5 + n) (ga K "rules_of") ["rows", "depth"] (spRulesOf K n)
  | 0 => OkF.vac T.d_rules_of (fun _ _ _ _ _ _ us hl => match us, hl with | [_, _], _ => rfl) fun vs H Q E h => by
    obtain ⟨ra, xs, ks, d, _, _, _, _, _, h1, h2, _⟩ := h
    omega
  | n + 1 => ok_rules_of_step T (ok_rules_of T n)
/-! ### properties -/
theorem sc_RuleName : FnScope ["self"] ["self"] (defScope sRuleName) := ⟨rfl, rfl, rfl, by decide +kernel, rfl, by decide +kernel, by decide +kernel⟩
theorem sc_RuleCond : FnScope ["self"] ["self"] (defScope sRuleCond) := ⟨rfl, rfl, rfl, by decide +kernel, rfl, by decide +kernel, by decide +kernel⟩
theorem sc_RuleRuling : FnScope ["self"] ["self"] (defScope sRuleRuling) := ⟨rfl, rfl, rfl, by decide +kernel, rfl, by decide +kernel, by decide +kernel⟩
theorem sc_RuleExc : FnScope ["self"] ["self"] (defScope sRuleExc) := ⟨rfl, rfl, rfl, by decide +kernel, rfl, by decide +kernel, by decide +kernel⟩
theorem sc_BookFacts : FnScope ["self"] ["self"] (defScope sBookFacts) := ⟨rfl, rfl, rfl, by decide +kernel, rfl, by decide +kernel, by decide +kernel⟩
theorem sc_BookRules : FnScope ["self"] ["self"] (defScope sBookRules) := ⟨rfl, rfl, rfl, by decide +kernel, rfl, by decide +kernel, by decide +kernel⟩
theorem sc_BookRuling : FnScope ["self"] ["self"] (defScope sBookRuling) := ⟨rfl, rfl, rfl, by decide +kernel, rfl, by decide +kernel, by decide +kernel⟩
theorem sc_CondH : FnScope ["self"] ["self"] (defScope sCondH) := ⟨rfl, rfl, rfl, by decide +kernel, rfl, by decide +kernel, by decide +kernel⟩
theorem sc_CondF : FnScope ["self"] ["self"] (defScope sCondF) := ⟨rfl, rfl, rfl, by decide +kernel, rfl, by decide +kernel, by decide +kernel⟩
theorem ok_Rule_name (T : TX P K mg) : OkF P w K mg base CX0 1 (pG K "Rule" "name") ["self"] (getSp (ga K "Rule") "own_name") := ok_getter T.d_Rule_name sc_RuleName rfl (fun _ _ _ _ _ _ us hl => match us, hl with | [_], _ => rfl) T.c_Rule T.n_own_name
theorem ok_Rule_condition (T : TX P K mg) : OkF P w K mg base CX0 1 (pG K "Rule" "condition") ["self"] (getSp (ga K "Rule") "own_condition") := ok_getter T.d_Rule_condition sc_RuleCond rfl (fun _ _ _ _ _ _ us hl => match us, hl with | [_], _ => rfl) T.c_Rule T.n_own_condition
theorem ok_Rule_ruling (T : TX P K mg) : OkF P w K mg base CX0 1 (pG K "Rule" "ruling") ["self"] (getSp (ga K "Rule") "own_ruling") := ok_getter T.d_Rule_ruling sc_RuleRuling rfl (fun _ _ _ _ _ _ us hl => match us, hl with | [_], _ => rfl) T.c_Rule T.n_own_ruling
theorem ok_Rule_exceptions (T : TX P K mg) : OkF P w K mg base CX0 1 (pG K "Rule" "exceptions") ["self"] (getSp (ga K "Rule") "inner") := ok_getter T.d_Rule_exceptions sc_RuleExc rfl (fun _ _ _ _ _ _ us hl => match us, hl with | [_], _ => rfl) T.c_Rule T.n_inner
theorem ok_Book_facts (T : TX P K mg) : OkF P w K mg base CX0 1 (pG K "Book" "facts") ["self"] (getSp (ga K "Book") "all_facts") := ok_getter T.d_Book_facts sc_BookFacts rfl (fun _ _ _ _ _ _ us hl => match us, hl with | [_], _ => rfl) T.c_Book T.n_all_facts
theorem ok_Book_rules (T : TX P K mg) : OkF P w K mg base CX0 1 (pG K "Book" "rules") ["self"] (getSp (ga K "Book") "outermost") := ok_getter T.d_Book_rules sc_BookRules rfl (fun _ _ _ _ _ _ us hl => match us, hl with | [_], _ => rfl) T.c_Book T.n_outermost
theorem ok_Book_ruling (T : TX P K mg) : OkF P w K mg base CX0 1 (pG K "Book" "ruling") ["self"] (getSp (ga K "Book") "last_ruling") := ok_getter T.d_Book_ruling sc_BookRuling rfl (fun _ _ _ _ _ _ us hl => match us, hl with | [_], _ => rfl) T.c_Book T.n_last_ruling
theorem ok_Condition_holding (T : TX P K mg) : OkF P w K mg base CX0 1 (pG K "Condition" "holding") ["self"] (getSp (ga K "Condition") "wanted") := ok_getter T.d_Condition_holding sc_CondH rfl (fun _ _ _ _ _ _ us hl => match us, hl with | [_], _ => rfl) T.c_Condition T.n_wanted
theorem ok_Condition_failing (T : TX P K mg) : OkF P w K mg base CX0 1 (pG K "Condition" "failing") ["self"] (getSp (ga K "Condition") "barred") := ok_getter T.d_Condition_failing sc_CondF rfl (fun _ _ _ _ _ _ us hl => match us, hl with | [_], _ => rfl) T.c_Condition T.n_barred
def spNames (K : Frag) : Sp := fun vs H Q _ => ∃ (c : Addr) (h f : List Str), vs = [.ref c] ∧ CondAt K H c h f ∧ h.length + f.length ≤ 8 ∧ ∀ a H' ns, Ex H H' → ST H' a ns → (∀ z ∈ ns, z ∈ h ∨ z ∈ f) → ns.length ≤ 8 → Q (.ref a) H'
theorem sc_Condition_names : FnScope ["self"] ["self"] (defScope sCondN) := ⟨rfl, rfl, rfl, by decide +kernel, rfl, by decide +kernel, by decide +kernel⟩
theorem ok_Condition_names (T : TX P K mg) : OkF P w K mg base CX0 (0 + 1) (pG K "Condition" "names") ["self"] (spNames K) := by
  refine OkF.mk0 T.d_Condition_names sc_Condition_names (fun _ _ _ _ _ _ us hl => match us, hl with | [_], _ => rfl) (fun vs H Q E h => ?_) (fun cdv A outs s H vs Q E hr h => ?_)
  · obtain ⟨_, _, _, rfl, _⟩ := h; rfl
  obtain ⟨c, h, f, rfl, ⟨dx, wa, ba, hC, hW, hB⟩, h8, q⟩ := h
  refine ⟨_, (pss_one (ps_ret (pe_callTy call_tuple_of (by rfl) T.b_tuple (by decide +kernel) (pa_cons (pe_callB cr_sortedTS (by rfl) T.b_sorted (by decide +kernel) (pa_cons (pe_op op_catA (pe_f T.c_Condition T.n_wanted (pv 0)) (pe_f T.c_Condition T.n_barred (pv 0))) pa_nil)) pa_nil)))), ?_⟩
  refine go_pf (ev_var rfl) hC rfl fun H1 e1 => ?_
  refine go_pf (ev_var rfl) (e1 _ _ hC) rfl fun H2 e2 => ?_
  have e12 := e1.trans e2
  have go : ∀ p H3, Ex H H3 → H3 p = some (.tup ((h ++ f).map V.str)) → rSortedTS K [.ref p] H3 fun x H4 => (∃ p ys, [x] = [V.ref p] ∧ ((SqL K H4 p ys ∧ ∀ l, H4 l = none → Q (.ref l) (upd H4 l (.tup ys))) ∨ (SqT K H4 p ys ∧ Q (.ref p) H4))) := fun p H3 e3 hp =>
    ⟨p, h ++ f, rfl, st_of hp, by rw [List.length_append]; omega, fun ys q1 hperm hs hq1 => ⟨q1, ys.map V.str, rfl, .inl ⟨sq_of upd_same, fun l hl => q l _ ys ((e3.trans (Ex.new hq1)).trans (Ex.new hl)) upd_same (fun z hz => List.mem_append.mp (hperm.mem_iff.mp hz)) (by rw [hperm.length_eq, List.length_append]; exact h8)⟩⟩⟩
  refine ⟨wa, ba, _, _, rfl, rfl, st_of (e12 _ _ hW), st_of (e12 _ _ hB), sz_of (by rw [List.length_map, List.length_map]; omega), fun hn => ?_, fun hn hm => ?_, fun hn hm p hp => ?_⟩
  · have : h = [] := List.map_eq_nil_iff.mp hn
    subst this
    exact go ba H2 e12 (e12 _ _ hB)
  · have : f = [] := List.map_eq_nil_iff.mp hm
    subst this
    exact go wa H2 e12 (by rw [List.append_nil]; exact e12 _ _ hW)
  · exact go p _ (e12.trans (Ex.new hp)) (by rw [upd_same, List.map_append])
/-! ### what rules tell -/
def spTold (K : Frag) (n : Nat) : Sp := fun vs H Q _ => ∃ (ra : Addr) (xs : List V) (fo : Fo), vs = [.ref ra] ∧ H ra = some (.tup xs) ∧ RulesAt K H fo xs ∧ fo.ht < n ∧ fo.sz ≤ 60 ∧ ∀ v H', Ex H H' → Dt H' v (.tuple fo.data) → Q v H'
theorem sc_l_told : FnScope ["_law_rules", "_law_found", "_law_rule_here", "_law_condition"] ["_law_rules"] (defScope sTold) := ⟨rfl, rfl, rfl, by decide +kernel, rfl, by decide +kernel, by decide +kernel⟩
theorem ok_l_told_step (T : TX P K mg) {n : Nat} (G_l_told : OkF P w K mg base CX0 (3 + n) (ga K "_law_told") ["_law_rules"] (spTold K n)) : OkF P w K mg base CX0 (3 + n + 1) (ga K "_law_told") ["_law_rules"] (spTold K (n + 1)) := by
  refine OkF.mk0 T.d_l_told sc_l_told (fun _ _ _ _ _ _ us hl => match us, hl with | [_], _ => rfl) (fun vs H Q E h => ?_) (fun cdv A outs s H vs Q E hr h => ?_)
  · obtain ⟨_, _, _, rfl, _⟩ := h; rfl
  obtain ⟨ra, xs, fo, rfl, hX, hR, hht, h60, q⟩ := h
  refine ⟨_, (pss_cons (ps_set (i := 1) sc_l_told.nd rfl (Or.inl rfl) (pe_lst pa_nil))
      (pss_cons (ps_for PassesOwn.never rfl (pi_tup (pv 0)) (pg_name (i := 2) sc_l_told.nd rfl (Or.inl rfl)) (pss_cons (ps_set (i := 3) sc_l_told.nd rfl (Or.inl rfl) (pe_p T.c_Rule T.p_Rule_condition (ok_Rule_condition T) hr (by omega) (E := E0) passN (pv 2)))
      (pss_one (ps_expr (pe_bm PySem.F.plainAttrs_list PySem.F.slot_list_append PySem.F.type_list_append mt_append (pv 1) (pa_cons (pe_tup (pa_cons (pe_p T.c_Rule T.p_Rule_name (ok_Rule_name T) hr (by omega) (E := E0) passN (pv 2)) (pa_cons (pe_p T.c_Condition T.p_Condition_holding (ok_Condition_holding T) hr (by omega) (E := E0) passN (pv 3)) (pa_cons (pe_p T.c_Condition T.p_Condition_failing (ok_Condition_failing T) hr (by omega) (E := E0) passN (pv 3)) (pa_cons (pe_p T.c_Rule T.p_Rule_ruling (ok_Rule_ruling T) hr (by omega) (E := E0) passN (pv 2)) (pa_cons (pe_c G_l_told hr (by omega) T.g_l_told (E := E0) passN (pa_cons (pe_p T.c_Rule T.p_Rule_exceptions (ok_Rule_exceptions T) hr (by omega) (E := E0) passN (pv 2)) pa_nil)) pa_nil)))))) pa_nil))))))
      (pss_one (ps_ret (pe_callTy call_tuple_of (by rfl) T.b_tuple (by decide +kernel) (pa_cons (pv 1) pa_nil)))))), ?_⟩
  refine q_asgL el_nil fun l H0 hl e0 hL0 => ?_
  refine q_forT (a := ra) (xs := xs) (ev_var rfl) (st_of (e0 _ _ hX)) (fun j σ' H' => ∃ B vs' ds' x2 x3, σ' = [some (.ref ra), some (.ref l), x2, x3] ∧ Ex H H' ∧ H' l = some (.lst vs') ∧ DtAll H' vs' ds' ∧ ds' ++ B.data = fo.data ∧ B.ht < n + 1 ∧ RulesAt K H B (xs.drop j) ∧ vs'.length = j ∧ B.sz ≤ 60)
    (fun H1 e1 => ⟨fo, [], [], none, none, rfl, e0.trans e1, e1 _ _ hL0, .nil, rfl, hht, hR, rfl, h60⟩) (fun j σ' H' hj p => ?_) (fun j x σ' H' hx p => ?_) (fun σ' H' p => ?_)
  · obtain ⟨B, vs', ds', x2, x3, _, a2, _⟩ := p
    exact st_of (a2 _ _ hX)
  · obtain ⟨B, vs', ds', x2, x3, rfl, a2, a3, a4, a5, a6, a7, a8, a9⟩ := p
    have hjl := (List.getElem?_eq_some_iff.mp hx).1
    have hd : xs.drop j = x :: xs.drop (j + 1) := by
      rw [List.drop_eq_getElem_cons hjl]
      congr 1
      exact Option.some.inj ((List.getElem?_eq_getElem hjl).symm.trans hx)
    rw [hd] at a7
    cases B with
    | nil => cases a7
    | cons k0 i0 r0 =>
    obtain ⟨a, dx, c, ia, is, rest, b1, b2, ⟨cx, wa, ba, b3, b4, b5⟩, b6, b7, b8⟩ := a7
    obtain ⟨rfl, rfl⟩ := List.cons.inj b1
    have hsz : 1 + i0.sz + r0.sz ≤ 60 := a9
    refine q_asg (ev_pf (ev_var rfl) (a2 _ _ b2) rfl) fun H1 e1 => ?_
    have e2 := a2.trans e1
    refine ⟨_, rfl, .inl ⟨rfl, _, sq_of (e1 _ _ a3)⟩, ?_⟩
    refine go_pf (ev_var rfl) (e2 _ _ b2) rfl fun H2 e3 => ?_
    refine go_pf (ev_var rfl) ((e2.trans e3) _ _ b3) rfl fun H3 e4 => ?_
    refine go_pf (ev_var rfl) (((e2.trans e3).trans e4) _ _ b3) rfl fun H4 e5 => ?_
    refine go_pf (ev_var rfl) ((((e2.trans e3).trans e4).trans e5) _ _ b2) rfl fun H5 e6 => ?_
    have e7 := (((e2.trans e3).trans e4).trans e5).trans e6
    refine go_k (ea_cons (ev_pf (ev_var rfl) (e7 _ _ b2) rfl) ea_nil) fun H6 e8 => ?_
    have e9 := e7.trans e8
    have e19 : Ex H' H6 := ((((e1.trans e3).trans e4).trans e5).trans e6).trans e8
    refine ⟨ia, is, i0, rfl, e9 _ _ b6, b7.mono e9, by
      have : max (1 + i0.ht) r0.ht < n + 1 := a6
      omega, by omega, fun v H7 e10 hv => ⟨by show 5 ≤ sizeLine; decide, fun t ht => ?_⟩⟩
    have e11 := e10.trans (Ex.new (o := .tup [.str k0.nm, .ref wa, .ref ba, .str k0.ru, v]) ht)
    have hL := e11 _ _ (e19 _ _ a3)
    refine ⟨l, _, _, rfl, rfl, hL, sz_lt (by have := hR.len; have := fo.sz_len; omega), r0, _, ds' ++ [.tuple [.str k0.nm, tupS k0.ho, tupS k0.fa, .str k0.ru, .tuple i0.data]], _, _, rfl, ?_, upd_same, ?_, ?_, ?_, b8, by rw [List.length_append, a8]; rfl, by omega⟩
    · exact (a2.trans (e19.trans e11)).mut hl
    · refine DtAll.app ((a4.mono (e19.trans e11)).updL hL) (.cons ?_ .nil)
      refine Dt.updL hL (.tup upd_same ?_)
      exact .cons (.str _) (.cons (dt_tupS (e11 _ _ (e9 _ _ b4))) (.cons (dt_tupS (e11 _ _ (e9 _ _ b5))) (.cons (.str _) (.cons (hv.mono (Ex.new ht)) .nil))))
    · rw [List.append_assoc]
      exact a5
    · have : max (1 + i0.ht) r0.ht < n + 1 := a6
      omega
  · obtain ⟨B, vs', ds', x2, x3, rfl, a2, a3, a4, a5, a6, a7, a8, a9⟩ := p
    rw [List.drop_eq_nil_of_le (Nat.le_refl _)] at a7
    refine ⟨_, rfl, l, _, rfl, .inl ⟨sq_of a3, fun t ht => ?_⟩⟩
    refine q _ _ (a2.trans (Ex.new ht)) (.tup upd_same ?_)
    cases B with
    | nil =>
      rw [← a5]
      exact (List.append_nil ds').symm ▸ (a4.mono (Ex.new ht))
    | cons k0 i0 r0 =>
      obtain ⟨a, dx, c, ia, is, rest, b1, _⟩ := a7
      cases b1
end
end K56
set_option Elab.async false
set_option linter.all false
set_option maxRecDepth 100000
set_option maxHeartbeats 4000000
/-! K56, part D8: a book and its checks. -/
namespace K56
open PySem PySem.W PyProof.Rows L2 Evl He
structure FactsOK (fs : List Str) : Prop where
  ne : fs ≠ []
  nm : ∀ z ∈ fs, isName z = true
  asc : Asc fs
  len : fs.length ≤ 60
def Fo.flat : Fo → Nat → Nat → List (KR × Nat × Nat)
  | .nil, _, _ => []
  | .cons k i r, m, c => (k, m, c) :: (i.flat (m + 1) 0 ++ r.flat m (c + 1))
theorem Fo.flat_len : ∀ (f : Fo) (m c : Nat), (f.flat m c).length = f.sz
  | .nil, _, _ => rfl
  | .cons k i r, m, c => by
    show (i.flat (m + 1) 0 ++ r.flat m (c + 1)).length + 1 = 1 + i.sz + r.sz
    rw [List.length_append, i.flat_len, r.flat_len]
    omega
theorem All2.app {α : Type} {R : V → α → Prop} {vs : List V} {ks : List α} (h : All2 R vs ks) : ∀ {ws : List V} {ls : List α}, All2 R ws ls → All2 R (vs ++ ws) (ks ++ ls)
  | ws, ls, h2 => by
    refine ⟨by rw [List.length_append, List.length_append, h.1, h2.1], fun i x y hx hy => ?_⟩
    rcases Nat.lt_or_ge i vs.length with c | c
    · rw [List.getElem?_append_left c] at hx
      rw [List.getElem?_append_left (by rw [← h.1]; exact c)] at hy
      exact h.2 i x y hx hy
    · rw [List.getElem?_append_right c] at hx
      rw [List.getElem?_append_right (by rw [← h.1]; exact c), ← h.1] at hy
      exact h2.2 _ x y hx hy
structure FlatOK (fs : List Str) (fl : List (KR × Nat × Nat)) : Prop where
  nd : (fl.map fun x => x.1.nm).Nodup
  sub : ∀ x ∈ fl, (∀ z ∈ x.1.ho, z ∈ fs) ∧ (∀ z ∈ x.1.fa, z ∈ fs) ∧ x.1.ho.length + x.1.fa.length ≤ 8
  deep : ∀ x ∈ fl, x.2.1 ≤ 5
  many : fl.length ≤ 60
  out : ∀ x ∈ fl, x.2.1 = 0 → x.2.2 < 40
section
variable {P : Program} {w : World} {K : Frag} {mg : Str → Option Value} {base : Heap}
def spVFacts : Sp := fun vs H Q _ => ∃ (fa : Addr) (fs : List Str), vs = [.ref fa] ∧ ST H fa fs ∧ FactsOK fs ∧ RetV .non H Q
theorem sc_validate_facts : FnScope ["facts", "index", "name"] ["facts"] (defScope sVFacts) := ⟨rfl, rfl, rfl, by decide +kernel, rfl, by decide +kernel, by decide +kernel⟩
theorem ok_validate_facts (T : TX P K mg) : OkF P w K mg base CX0 (1 + 1) (ga K "validate_facts") ["facts"] spVFacts := by
  refine OkF.mk0 T.d_validate_facts sc_validate_facts (fun _ _ _ _ _ _ us hl => match us, hl with | [_], _ => rfl) (fun vs H Q E h => ?_) (fun cdv A outs s H vs Q E hr h => ?_)
  · obtain ⟨_, _, rfl, _⟩ := h; rfl
  obtain ⟨fa, fs, rfl, hF, O, q⟩ := h
  refine ⟨_, (pss_cons (ps_if (pt_cmpR (op_eqE (hu_of hr)) (pv 0) (pe_tup pa_nil) (nomark _)) (pss_one ps_never) pss_nil)
      (pss_one (ps_for PassesOwn.never rfl (pi_enumT (by rfl) T.b_enumerate (pa_cons (pv 0) pa_nil)) (pg_tup rfl (pgs_cons (pg_name (i := 1) sc_validate_facts.nd rfl (Or.inl rfl)) (pgs_cons (pg_name (i := 2) sc_validate_facts.nd rfl (Or.inl rfl)) pgs_nil))) (pss_one (ps_if (pw_or (pt_cmpR op_eq (pv 1) (pe_glob (v := .int 60) (by rfl) T.i_MAX_FACTS.choose_spec ⟨_, rfl⟩) (nomark _)) (pw_or (pt_not (pt_val (pe_c (ok_is_name T) hr (by omega) T.g_is_name (E := E0) passN (pa_cons (pv 2) pa_nil)))) (pw_or1 (pw_and (pt_cmpR op_gt (pv 1) pe_int (nomark _)) (pw_and1 (pt_cmpR op_le_str (pv 2) (pe_ix ix_tup (pv 0) (pe_op op_sub (pv 1) pe_int) (fun _ _ => rfl)) (nomark _)))).pt))).pt (pss_one ps_never) pss_nil))))), ?_⟩
  refine q_when (b := false) (et_is (et_test (ev_eqET (ev_var rfl) (st_of hF) eu_nil)) (decide_eq_false fun z => O.ne (List.map_eq_nil_iff.mp z))) (fun hb => nomatch hb) (fun _ H0 e0 => ?_)
  refine s_forET (xs := fs.map V.str) (fun Q k => EvA.v (ea_cons (ev_var rfl) ea_nil) fun H1 e1 => k fa H1 e1 ((e0.trans e1) fa _ hF))
    (fun b i σ' H' => (∃ x1 x2, σ' = [some (.ref fa), x1, x2]) ∧ Ex H H' ∧ H' b = some (.tup (fs.map V.str)))
    (fun b H1 e1 h1 => ⟨⟨_, _, rfl⟩, e0.trans e1, h1⟩) (fun b i σ' H' p => p.2.2) (fun b i v σ' H' U H2 hv p e2 hU => ?_) (fun b σ' H' p => q H' p.2.1)
  obtain ⟨⟨x1, x2, rfl⟩, e1, h1⟩ := p
  refine g_two hU ?_
  have hi : i < fs.length := by
    have := (List.getElem?_eq_some_iff.mp hv).1
    rwa [List.length_map] at this
  have ev : v = .str (wd fs i) := by
    have := hv
    rw [List.getElem?_map, wd_at hi] at this
    exact (Option.some.inj this).symm
  subst ev
  have nz := O.nm _ (wd_mem hi)
  have nl := name_le nz
  have e12 := e1.trans e2
  refine s_when (b := false) (et_is (et_or (et_test (ev_op (ev_var rfl) ev_c rv_eqi)) fun _ => et_or (et_not (et_B (ev_name (ev_var rfl) (by omega)))) fun _ => et_and (et_test (ev_op (ev_var rfl) ev_c rv_I0)) fun h0 => et_test (ev_op (ev_var rfl) (ev_op (ev_var rfl) (ev_op (ev_var rfl) ev_c rv_I0) (rv_ixT (st_of (e12 fa _ hF)) (at_eq (at_str (p := i - 1) (by omega)) (by have := of_decide_eq_true h0; omega)))) rv_le)) ?_) (fun hb => nomatch hb) (fun _ H3 e3 => ⟨⟨_, _, rfl⟩, e12.trans e3, e3 _ _ (e2 _ _ h1)⟩)
  rw [nz, decide_eq_false (by have := O.len; omega)]
  rcases Nat.eq_zero_or_pos i with z | z
  · rw [z]
    rfl
  · have := O.asc (i - 1) (by omega)
    rw [show i - 1 + 1 = i by omega] at this
    rw [this]
    simp
/-! ### the rows of a book -/
def RuleAt1 (K : Frag) (H : Hp) (a : Addr) (k : KR) : Prop := ∃ dx c ia, H a = some (.ins (ga K "Rule") dx [("own_name", .str k.nm), ("own_condition", .ref c), ("own_ruling", .str k.ru), ("inner", .ref ia)]) ∧ CondAt K H c k.ho k.fa
theorem RuleAt1.mono {H H' : Hp} {a : Addr} {k : KR} (h : RuleAt1 K H a k) (e : Ex H H') : RuleAt1 K H' a k := by
  obtain ⟨dx, c, ia, h1, h2⟩ := h
  exact ⟨dx, c, ia, e _ _ h1, h2.mono e⟩
theorem RuleAt1.updL {H : Hp} {a l : Addr} {xs : List V} {o : HO} {k : KR} (hl : H l = some (.lst xs)) (h : RuleAt1 K H a k) : RuleAt1 K (upd H l o) a k := by
  obtain ⟨dx, c, ia, h1, h2⟩ := h
  exact ⟨dx, c, ia, ex_updL hl h1 (fun _ z => nomatch z), h2.updL hl⟩
def FlAt (K : Frag) (H : Hp) (S : Addr → Prop) (v : V) (x : KR × Nat × Nat) : Prop := ∃ t a ol os, v = .ref t ∧ H t = some (.tup [.ref a, .ref ol, .int x.2.2]) ∧ RuleAt1 K H a x.1 ∧ H ol = some (.lst os) ∧ os.length = x.2.1 ∧ S ol
theorem FlAt.mono {H H' : Hp} {S : Addr → Prop} {v : V} {x : KR × Nat × Nat} (h : FlAt K H S v x) (e : Ex H H') : FlAt K H' S v x := by
  obtain ⟨t, a, ol, os, h1, h2, h3, h4, h5, h6⟩ := h
  exact ⟨t, a, ol, os, h1, e _ _ h2, h3.mono e, e _ _ h4, h5, h6⟩
theorem FlAt.updL {H : Hp} {S : Addr → Prop} {l : Addr} {xs : List V} {o : HO} {v : V} {x : KR × Nat × Nat} (hl : H l = some (.lst xs)) (hS : ∀ a, S a → a ≠ l) (h : FlAt K H S v x) : FlAt K (upd H l o) S v x := by
  obtain ⟨t, a, ol, os, h1, h2, h3, h4, h5, h6⟩ := h
  exact ⟨t, a, ol, os, h1, ex_updL hl h2 (fun _ z => nomatch z), h3.updL hl, by rw [upd_ne (hS _ h6)]; exact h4, h5, h6⟩
theorem FlAt.imp {H : Hp} {S S' : Addr → Prop} {v : V} {x : KR × Nat × Nat} (h : FlAt K H S v x) (i : ∀ a, S a → S' a) : FlAt K H S' v x := by
  obtain ⟨t, a, ol, os, h1, h2, h3, h4, h5, h6⟩ := h
  exact ⟨t, a, ol, os, h1, h2, h3, h4, h5, i _ h6⟩
def spRowsB (K : Frag) (n : Nat) : Sp := fun vs H Q _ => ∃ (ra ol : Addr) (xs os : List V) (fo : Fo) (m : Nat), vs = [.ref ra, .ref ol] ∧ H ra = some (.tup xs) ∧ RulesAt K H fo xs ∧ H ol = some (.lst os) ∧ os.length = m ∧ fo.ht < n ∧ m + n ≤ 1000 ∧ fo.sz ≤ 60 ∧
  ∀ p H' rows, Ex H H' → H p = none → H' p = some (.lst rows) → All2 (FlAt K H' fun a => H a = none ∨ a = ol) rows (fo.flat m 0) → Q (.ref p) H'
theorem sc_rows_of_books : FnScope ["rules", "outer", "found", "number", "rule"] ["rules", "outer"] (defScope sRowsB) := ⟨rfl, rfl, rfl, by decide +kernel, rfl, by decide +kernel, by decide +kernel⟩
theorem ok_rows_of_books_step (T : TX P K mg) {n : Nat} (G_rows_of_books : OkF P w K mg base CX0 (1 + n) (ga K "rows_of_books") ["rules", "outer"] (spRowsB K n)) : OkF P w K mg base CX0 (1 + n + 1) (ga K "rows_of_books") ["rules", "outer"] (spRowsB K (n + 1)) := by
  refine OkF.mk0 T.d_rows_of_books sc_rows_of_books (fun _ _ _ _ _ _ us hl => match us, hl with | [_, _], _ => rfl) (fun vs H Q E h => ?_) (fun cdv A outs s H vs Q E hr h => ?_)
  · obtain ⟨_, _, _, _, _, _, rfl, _⟩ := h; rfl
  obtain ⟨ra, ol, xs, os, fo, m, rfl, hX, hR, hO, hm, hht, hmn, h60, q⟩ := h
  refine ⟨_, (pss_cons (ps_set (i := 2) sc_rows_of_books.nd rfl (Or.inl rfl) (pe_lst pa_nil))
      (pss_cons (ps_for PassesOwn.never rfl (pi_enumT (by rfl) T.b_enumerate (pa_cons (pv 0) pa_nil)) (pg_tup rfl (pgs_cons (pg_name (i := 3) sc_rows_of_books.nd rfl (Or.inl rfl)) (pgs_cons (pg_name (i := 4) sc_rows_of_books.nd rfl (Or.inl rfl)) pgs_nil))) (pss_cons (ps_expr (pe_bm PySem.F.plainAttrs_list PySem.F.slot_list_append PySem.F.type_list_append mt_append (pv 2) (pa_cons (pe_tup (pa_cons (pv 4) (pa_cons (pv 1) (pa_cons (pv 3) pa_nil)))) pa_nil)))
      (pss_one (ps_expr (pe_bm PySem.F.plainAttrs_list PySem.F.slot_list_extend PySem.F.type_list_extend mt_extend (pv 2) (pa_cons (pe_c G_rows_of_books hr (by omega) T.g_rows_of_books (E := E0) passN (pa_cons (pe_f T.c_Rule T.n_inner (pv 4)) (pa_cons (pe_op op_cat (pv 1) (pe_lst (pa_cons (pv 4) pa_nil))) pa_nil))) pa_nil))))))
      (pss_one (ps_ret (pv 2))))), ?_⟩
  refine q_asgL el_nil fun l H0 hl e0 hL0 => ?_
  have nol : ol ≠ l := ne_of_none hO hl
  have hS : ∀ a, ((H a = none ∧ a ≠ l) ∨ a = ol) → a ≠ l := fun a h => by
    rcases h with h | h
    · exact h.2
    · rw [h]
      exact nol
  refine q_forET (xs := xs) (fun Q k => EvA.v (ea_cons (ev_var rfl) ea_nil) fun H1 e1 => k ra H1 e1 ((e0.trans e1) _ _ hX))
    (fun a j σ' H' => ∃ B rows dn x3 x4, σ' = [some (.ref ra), some (.ref ol), some (.ref l), x3, x4] ∧ Ex H H' ∧ H' l = some (.lst rows) ∧ All2 (FlAt K H' fun a => (H a = none ∧ a ≠ l) ∨ a = ol) rows dn ∧ dn ++ B.flat m j = fo.flat m 0 ∧ B.ht < n + 1 ∧ B.sz + dn.length ≤ 60 ∧ RulesAt K H B (xs.drop j) ∧ H' a = some (.tup xs))
    (fun a H1 e1 h1 => ⟨fo, [], [], none, none, rfl, e0.trans e1, e1 _ _ hL0, All2.nil, rfl, hht, h60, hR, h1⟩) (fun a j σ' H' p => ?_) (fun a j x σ' H' U H2 hx p e2 hU => ?_) (fun a σ' H' p => ?_)
  · obtain ⟨B, rows, dn, x3, x4, _, _, _, _, _, _, _, _, a9⟩ := p
    exact a9
  · obtain ⟨B, rows, dn, x3, x4, rfl, a2, a3, a4, a5, a6, a7, a8, a9⟩ := p
    have hjl := (List.getElem?_eq_some_iff.mp hx).1
    have hd : xs.drop j = x :: xs.drop (j + 1) := by
      rw [List.drop_eq_getElem_cons hjl]
      congr 1
      exact Option.some.inj ((List.getElem?_eq_getElem hjl).symm.trans hx)
    rw [hd] at a8
    cases B with
    | nil => cases a8
    | cons k0 i0 r0 =>
    obtain ⟨ro, dx, c, ia, is, rest, b1, b2, b3, b6, b7, b8⟩ := a8
    obtain ⟨rfl, rfl⟩ := List.cons.inj b1
    have hsz : 1 + i0.sz + r0.sz + dn.length ≤ 60 := a7
    have hht0 : max (1 + i0.ht) r0.ht < n + 1 := a6
    refine g_two hU ?_
    refine q_appU (e2 _ _ a3) (ev_var rfl) (eu_tup (ea_cons (ev_var rfl) (ea_cons (ev_var rfl) (ea_cons (ev_var rfl) ea_nil))) (by show 3 ≤ 100000; decide)) (by have := a4.1; omega) fun t H3 ht e3 h3 => ?_
    have e23 := e2.trans e3
    have hL3 : H3 l = some (.lst rows) := e23 _ _ a3
    have eH3 : Ex H (upd H3 l (.lst (rows ++ [.ref t]))) := (a2.trans e23).mut hl
    have h4l : upd H3 l (.lst (rows ++ [.ref t])) l = some (.lst (rows ++ [.ref t])) := upd_same
    have hA4 : All2 (FlAt K (upd H3 l (.lst (rows ++ [.ref t]))) fun a => (H a = none ∧ a ≠ l) ∨ a = ol) (rows ++ [.ref t]) (dn ++ [(k0, m, j)]) := by
      refine All2.snoc (a4.mono fun v k z => (z.mono e23).updL hL3 hS) ⟨t, ro, ol, os, rfl, ex_updL hL3 h3 (fun _ z => nomatch z), ⟨dx, c, ia, eH3 _ _ b2, b3.mono eH3⟩, eH3 _ _ hO, hm, .inr rfl⟩
    have h4a : upd H3 l (.lst (rows ++ [.ref t])) a = some (.tup xs) := ex_updL hL3 (e23 _ _ a9) (fun _ z => nomatch z)
    revert eH3 h4l hA4 h4a
    generalize upd H3 l (.lst (rows ++ [.ref t])) = H4
    intro eH4 h4l hA4 h4a
    refine ⟨_, rfl, .inl ⟨rfl, _, sq_of h4l⟩, ?_⟩
    refine go_pf (ev_var rfl) (eH4 _ _ b2) rfl fun H5 e5 => ?_
    refine el_catVN (ev_var rfl) (e5 _ _ (eH4 _ _ hO)) (el_lst (ea_cons (ev_var rfl) ea_nil) (by show 1 ≤ 100000; decide)) (by rw [hm]; show m + 1 ≤ 100000; omega) H5 (Ex.refl H5) _ fun p0 H6 hp0 e6 h6 => ?_
    have e46 := e5.trans e6
    have eH6 := eH4.trans e46
    refine ⟨ia, p0, is, os ++ [.ref ro], i0, m + 1, rfl, eH6 _ _ b6, b7.mono eH6, h6, by rw [List.length_append, hm]; rfl, by omega, by omega, by omega, fun p1 H7 rows1 e7 hp1 h7 hA7 => ?_⟩
    have hL7 : H7 l = some (.lst (rows ++ [.ref t])) := e7 _ _ (e46 _ _ h4l)
    refine ⟨l, p1, _, rows1, rfl, rfl, hL7, h7, sz_of (by have h1 := hA4.1; have h2 := hA7.1; rw [i0.flat_len] at h2; rw [h1, h2, List.length_append, List.length_singleton]; omega), r0, _, _, _, _, rfl, (eH6.trans e7).mut hl, upd_same, All2.app (hA4.mono fun v k z => (z.mono (e46.trans e7)).updL hL7 hS) (hA7.mono fun v k z => (z.imp fun a ha => ?_).updL hL7 hS), ?_, by omega, ?_, b8, ?_⟩
    · rcases ha with ha | ha
      · refine .inl ⟨?_, fun z => ?_⟩
        · cases q0 : H a with
          | none => rfl
          | some o =>
            rw [eH6 _ _ q0] at ha
            cases ha
        · rw [z, e46 _ _ h4l] at ha
          cases ha
      · have n0 : p0 ≠ l := fun z => by
          rw [z, e5 _ _ h4l] at hp0
          cases hp0
        exact .inl ⟨by rw [ha]; exact fresh_back (eH4.trans e5) hp0, by rw [ha]; exact n0⟩
    · rw [← a5]
      show _ = dn ++ ((k0, m, j) :: (i0.flat (m + 1) 0 ++ r0.flat m (j + 1)))
      simp
    · rw [List.length_append, List.length_append, List.length_singleton, i0.flat_len]
      omega
    · exact ex_updL hL7 (e7 _ _ (e46 _ _ h4a)) (fun _ z => nomatch z)
  · obtain ⟨B, rows, dn, x3, x4, rfl, a2, a3, a4, a5, a6, a7, a8, a9⟩ := p
    rw [List.drop_eq_nil_of_le (Nat.le_refl _)] at a8
    cases B with
    | cons k0 i0 r0 =>
      obtain ⟨a, dx, c, ia, is, rest, b1, _⟩ := a8
      cases b1
    | nil =>
    refine ⟨_, rfl, ?_⟩
    rw [show dn ++ Fo.nil.flat m xs.length = dn from List.append_nil dn] at a5
    rw [a5] at a4
    exact q l H' rows a2 hl a3 (a4.mono fun v k z => z.imp fun a ha => by
      rcases ha with ha | ha
      · exact .inl ha.1
      · exact .inr ha)
theorem ok_rows_of_books (T : TX P K mg) : ∀ n : Nat, OkF P w K mg base CX0 (1 + n) (ga K "rows_of_books") ["rules", "outer"] (spRowsB K n)
  | 0 => OkF.vac T.d_rows_of_books (fun _ _ _ _ _ _ us hl => match us, hl with | [_, _], _ => rfl) fun vs H Q E h => by
    obtain ⟨ra, ol, xs, os, fo, m, _, _, _, _, _, h1, _⟩ := h
    omega
  | n + 1 => ok_rows_of_books_step T (ok_rows_of_books T n)
theorem ok_l_told (T : TX P K mg) : ∀ n : Nat, OkF P w K mg base CX0 (3 + n) (ga K "_law_told") ["_law_rules"] (spTold K n)
  | 0 => OkF.vac T.d_l_told (fun _ _ _ _ _ _ us hl => match us, hl with | [_], _ => rfl) fun vs H Q E h => by
    obtain ⟨ra, xs, fo, _, _, _, h1, _⟩ := h
    omega
  | n + 1 => ok_l_told_step T (ok_l_told T n)
/-! ### the checks of a book -/
def BookIns (K : Frag) (H : Hp) (b fa oa : Addr) (ru : Str) (rl : Addr) : Prop := ∃ dx, H b = some (.ins (ga K "Book") dx [("all_facts", .ref fa), ("outermost", .ref oa), ("last_ruling", .str ru), ("rows", .ref rl)])
/-- a comprehension over a tuple that a promise hands, none of whose turns gives -/
theorem el_lcT0 {tl te : TE} {t : TT} {j : Nat} {vs : List Nat} {σ : L2.St} {H : Hp} {G : List V → Prop} (h : ∀ H0, Ex H H0 → ∀ Q : VK, (∀ a H1 xs, Ex H0 H1 → H1 a = some (.tup xs) → G xs → Q (.ref a) H1) → tl σ H0 Q)
    (hz : ∀ xs, G xs → xs.length ≤ 40000) (hw : ∀ x, wipe ((wipe σ vs).set j (some x)) vs = wipe σ vs) (ht : ∀ xs, G xs → ∀ x ∈ xs, ∀ H1, Ex H H1 → EvT t ((wipe σ vs).set j (some x)) H1 false) : EvL (tLc (iTup K tl) (gName j) t te vs) σ H [] := fun H0 e Q q =>
  h H0 e _ fun a H1 xs e1 ha hg => ⟨a, rfl, ⟨xs, st_of ha⟩, fun Dl hD =>
    lc_tup (xs := xs) (Cw H1 (fun _ => false) (fun _ => .non) Dl) ⟨hD, Ex.new hD, upd_same⟩ (fun i H' _ p => st_of (p.2.1 a _ ha)) (fun i x H' hi p => ⟨hw x, cw_turn p (by have := (List.getElem?_eq_some_iff.mp hi).1; have := hz xs hg; omega) (ht xs hg x (List.mem_of_getElem? hi) H1 (e.trans e1)) (fun hf => nomatch hf)⟩)
      (fun H' p => q Dl H' (fresh_back e1 p.1) (e1.trans p.2.1) (by
        have h3 := p.2.2
        have h4 : Evl.given xs.length (fun _ => false) (fun _ => V.non) = [] := by
          unfold Evl.given
          rw [List.filter_eq_nil_iff.mpr fun _ _ => Bool.false_ne_true]
          rfl
        rw [h4] at h3
        exact h3))⟩
def spBookV (K : Frag) : Sp := fun vs H Q _ => ∃ (b fa oa rl : Addr) (ru : Str) (fs : List Str) (rows : List V) (fl : List (KR × Nat × Nat)) (S : Addr → Prop), vs = [.ref b] ∧ BookIns K H b fa oa ru rl ∧ ST H fa fs ∧ H rl = some (.lst rows) ∧ All2 (FlAt K H S) rows fl ∧ FlatOK fs fl ∧ RetV .non H Q
theorem sc_Book_validate_rows : FnScope ["self", "met", "index", "rule", "outer", "number", "name"] ["self"] (defScope sBookV) := ⟨rfl, rfl, rfl, by decide +kernel, rfl, by decide +kernel, by decide +kernel⟩
theorem ok_Book_validate_rows (T : TX P K mg) : OkF P w K mg base CX0 (3 + 1) (ma K (ga K "Book") "validate_rows") ["self"] (spBookV K) := by
  refine OkF.mk0 T.d_Book_validate_rows sc_Book_validate_rows (fun _ _ _ _ _ _ us hl => match us, hl with | [_], _ => rfl) (fun vs H Q E h => ?_) (fun cdv A outs s H vs Q E hr h => ?_)
  · obtain ⟨_, _, _, _, _, _, _, _, _, rfl, _⟩ := h; rfl
  obtain ⟨b, fa, oa, rl, ru, fs, rows, fl, S, rfl, ⟨dx, hI⟩, hF, hRl, hA, O, q⟩ := h
  refine ⟨_, (pss_cons (ps_set (i := 1) sc_Book_validate_rows.nd rfl (Or.inl rfl) (pe_lst pa_nil))
      (pss_one (ps_for PassesOwn.never rfl (pi_enum (by rfl) T.b_enumerate (pa_cons (pe_f T.c_Book T.n_rows (pv 0)) pa_nil)) (pg_tup rfl (pgs_cons (pg_name (i := 2) sc_Book_validate_rows.nd rfl (Or.inl rfl)) (pgs_cons (pg_tup rfl (pgs_cons (pg_name (i := 3) sc_Book_validate_rows.nd rfl (Or.inl rfl)) (pgs_cons (pg_name (i := 4) sc_Book_validate_rows.nd rfl (Or.inl rfl)) (pgs_cons (pg_name (i := 5) sc_Book_validate_rows.nd rfl (Or.inl rfl)) pgs_nil)))) pgs_nil))) (pss_cons (ps_if (pt_cmpR op_in_seq (pe_p T.c_Rule T.p_Rule_name (ok_Rule_name T) hr (by omega) (E := E0) passN (pv 3)) (pv 1) rfl) (pss_one ps_never) pss_nil)
      (pss_cons (ps_if (pt_cmpR (op_neE (hu_of hr)) (pe_lc (own := [("name", 6)]) (g := (gName 6))  rfl sc_Book_validate_rows.nd (pi_tup (pe_pr T.c_Condition T.p_Condition_names (E := E0) (ok_Condition_names T) hr (by omega) passN (pe_p T.c_Rule T.p_Rule_condition (ok_Rule_condition T) hr (by omega) (E := E0) passN (pv 3)))) (blkOk_by (own := [("name", 6)]) (N := ["self", "met", "index", "rule", "outer", "number", "name"]) (sc := defScope sBookV) (by decide +kernel)) (fun _ _ _ _ _ => (pg_name (i := 6) sc_Book_validate_rows.nd rfl (Or.inl rfl) (.inr (by rfl)))) (fun _ _ _ _ _ => pts_one (pt_cmpR (show OpR _ (compareOp .NotIn) (rIn K true) from op_notIn_seq) (pv 6) (pe_f T.c_Book T.n_all_facts (pv 0)) rfl)) (fun _ _ _ _ _ => (pv 6))) (pe_lst pa_nil) (nomark _)) (pss_one ps_never) pss_nil)
      (pss_cons (ps_if (pt_cmpR op_gt (pe_callB call_len_seq (by rfl) T.b_len PySem.boot_len (pa_cons (pv 4) pa_nil)) (pe_glob (v := .int 5) (by rfl) T.i_MAX_OPEN.choose_spec ⟨_, rfl⟩) (nomark _)) (pss_one ps_never) pss_nil)
      (pss_cons (ps_if (pw_or (pt_cmpR op_ge (pv 2) (pe_glob (v := .int 60) (by rfl) T.i_MAX_RULES.choose_spec ⟨_, rfl⟩) (nomark _)) (pw_or1 (pw_and (pt_cmpR (op_eqE (hu_of hr)) (pv 4) (pe_lst pa_nil) (nomark _)) (pw_and1 (pt_cmpR op_ge (pv 5) (pe_glob (v := .int 40) (by rfl) T.i_MAX_OUTERMOST.choose_spec ⟨_, rfl⟩) (nomark _)))).pt)).pt (pss_one ps_never) pss_nil)
      (pss_one (ps_expr (pe_bm PySem.F.plainAttrs_list PySem.F.slot_list_append PySem.F.type_list_append mt_append (pv 1) (pa_cons (pe_p T.c_Rule T.p_Rule_name (ok_Rule_name T) hr (by omega) (E := E0) passN (pv 3)) pa_nil))))))))))), ?_⟩
  refine q_asgL el_nil fun l H0 hl e0 hL0 => ?_
  refine s_forEL (a := rl) (xs := rows) (ea_cons (ev_pf (ev_var rfl) (e0 _ _ hI) rfl) ea_nil) (e0 _ _ hRl) (fun j σ' H' => ∃ x2 x3 x4 x5, σ' = [some (.ref b), some (.ref l), x2, x3, x4, x5, none] ∧ Ex H H' ∧ SL H' l ((fl.take j).map fun x => x.1.nm))
    (fun H1 e1 => ⟨none, none, none, none, rfl, e0.trans e1, e1 _ _ hL0⟩) (fun j σ' H' p => ?_) (fun j x σ' H' U H2 hx p e2 hU => ?_) (fun σ' H' p => ?_)
  · obtain ⟨_, _, _, _, _, a2, _⟩ := p
    exact a2 _ _ hRl
  · obtain ⟨x2, x3, x4, x5, rfl, a2, a3⟩ := p
    obtain ⟨k, hk, t, a, ol, os, rfl, h2, ⟨dr, c, ia, h3, h4⟩, h5, h6, h7⟩ := hA.getV hx
    have hjl : j < fl.length := (List.getElem?_eq_some_iff.mp hk).1
    have hkm : k ∈ fl := List.mem_of_getElem? hk
    have e12 := a2.trans e2
    refine g_nest hU (e12 _ _ h2) ?_
    -- the name is new
    refine q_when (b := false) (et_is (et_test (ev_op (ev_pf (ev_var rfl) (e12 _ _ h3) rfl) (ev_var rfl) (rv_inS (.inl (sq_of (e2 _ _ a3)))))) ?_) (fun hb => nomatch hb) (fun _ H3 e3 => ?_)
    · refine decide_eq_false fun hm => ?_
      have hnd := O.nd
      have h8 : fl.map (fun x => x.1.nm) = (fl.take j).map (fun x => x.1.nm) ++ (k.1.nm :: (fl.drop (j + 1)).map fun x => x.1.nm) := by
        have h9 : fl = fl.take j ++ (k :: fl.drop (j + 1)) := by
          have h10 : fl.drop j = k :: fl.drop (j + 1) := by
            rw [List.drop_eq_getElem_cons hjl]
            congr 1
            exact Option.some.inj ((List.getElem?_eq_getElem hjl).symm.trans hk)
          rw [← h10, List.take_append_drop]
        exact (congrArg (List.map fun x : KR × Nat × Nat => x.1.nm) h9).trans (by rw [List.map_append]; rfl)
      rw [h8, List.nodup_append] at hnd
      exact hnd.2.2 _ hm _ List.mem_cons_self rfl
    have e13 := e12.trans e3
    -- its condition's names are facts
    refine q_when (b := false) (et_is (et_test (ev_neNE (xs := []) (el_lcT0 (K := K) (G := fun xs => ∃ ns : List Str, xs = ns.map V.str ∧ (∀ z ∈ ns, z ∈ fs) ∧ ns.length ≤ 8) (fun H4 e4 Q k4 => ?_) (fun xs hg => ?_) (fun x => rfl) (fun xs hg x hx H4 e4 => ?_)) el_nil)) rfl) (fun hb => nomatch hb) (fun _ H4 e4 => ?_)
    · refine go_pf (ev_var rfl) ((e13.trans e4) _ _ h3) rfl fun H5 e5 => ?_
      obtain ⟨dc, wa, ba, c1, c2, c3⟩ := h4.mono ((e13.trans e4).trans e5)
      refine ⟨c, dc, _, rfl, c1, c, k.1.ho, k.1.fa, rfl, ⟨dc, wa, ba, c1, c2, c3⟩, (O.sub k hkm).2.2, fun a6 H6 ns e6 h6 hz h8 => k4 a6 H6 _ (e5.trans e6) h6 ⟨ns, rfl, fun z hz2 => ?_, h8⟩⟩
      rcases hz z hz2 with h | h
      · exact (O.sub k hkm).1 z h
      · exact (O.sub k hkm).2.1 z h
    · obtain ⟨ns, rfl, _, h8⟩ := hg
      rw [List.length_map]
      omega
    · obtain ⟨ns, rfl, hz, h8⟩ := hg
      obtain ⟨z, hz2, rfl⟩ := List.mem_map.mp hx
      refine et_is (et_test (ev_op (ev_var rfl) (ev_pf (ev_var rfl) ((e13.trans e4) _ _ hI) rfl) (rv_niS (.inr (st_of ((e13.trans e4) _ _ hF)))))) ?_
      rw [decide_eq_true (hz z hz2)]
      rfl
    have e14 := e13.trans e4
    -- not too deep
    refine q_when (b := false) (et_is (et_test (ev_op (ev_len (ev_var rfl) (sq_of (e14 _ _ h5))) ev_c rv_I0)) (decide_eq_false (by have := O.deep k hkm; omega))) (fun hb => nomatch hb) (fun _ H5 e5 => ?_)
    have e15 := e14.trans e5
    -- not too many
    refine q_when (b := false) (et_is (et_or (et_test (ev_op (ev_var rfl) ev_c rv_I0)) fun _ => et_and (et_test (ev_eqE (ev_var rfl) (sq_of (e15 _ _ h5)) el_nil)) fun _ => et_test (ev_op (ev_var rfl) ev_c rv_I0)) ?_) (fun hb => nomatch hb) (fun _ H6 e6 => ?_)
    · rw [decide_eq_false (by have := O.many; omega)]
      by_cases z : os = []
      · rw [decide_eq_false (p := (40 : Int) ≤ _)]
        · simp
        · have := O.out k hkm (by rw [← h6, z]; rfl)
          omega
      · rw [decide_eq_false z]
        rfl
    have e26 := (((e2.trans e3).trans e4).trans e5).trans e6
    refine s_app (e26 _ _ a3) (ev_var rfl) (ev_pf (ev_var rfl) ((e15.trans e6) _ _ h3) rfl) (by rw [List.length_map, List.length_map, List.length_take]; have := O.many; omega) fun H7 e7 => ?_
    refine ⟨_, _, _, _, rfl, ((e15.trans e6).trans e7).mut hl, ?_⟩
    show upd H7 l _ l = _
    rw [upd_same, List.take_succ, hk, List.map_append, List.map_append]
    rfl
  · obtain ⟨_, _, _, _, _, a2, _⟩ := p
    exact q H' a2
/-- a book as an object -/
def BookAt (K : Frag) (H : Hp) (b : Addr) (fs : List Str) (fo : Fo) (ru : Str) : Prop := ∃ fa oa xs rl, BookIns K H b fa oa ru rl ∧ ST H fa fs ∧ H oa = some (.tup xs) ∧ RulesAt K H fo xs
theorem BookAt.mono {H H' : Hp} {b : Addr} {fs : List Str} {fo : Fo} {ru : Str} (h : BookAt K H b fs fo ru) (e : Ex H H') : BookAt K H' b fs fo ru := by
  obtain ⟨fa, oa, xs, rl, ⟨dx, h1⟩, h2, h3, h4⟩ := h
  exact ⟨fa, oa, xs, rl, ⟨dx, e _ _ h1⟩, e _ _ h2, e _ _ h3, h4.mono e⟩
theorem upd_ins3 {H : Hp} {x y C dx : Addr} {fs : List (Str × V)} {o u : HO} (hx : H x = some (.ins C dx fs)) (hl : fs.length = 3) (hy : H y = some u) (hu : ∀ C dx fs, fs.length = 3 → u ≠ .ins C dx fs) : upd H x o y = some u := by
  rw [upd_ne]
  · exact hy
  · intro e
    rw [e, hx] at hy
    exact hu C dx fs hl (Option.some.inj hy).symm
theorem ins_len {C D dx dy : Addr} {fs gs : List (Str × V)} (h : gs.length ≠ fs.length) : HO.ins C dx gs ≠ .ins D dy fs := fun e => by
  injection e with _ _ e
  exact h (congrArg List.length e)
theorem FlAt.updI {H : Hp} {S : Addr → Prop} {x C dx : Addr} {fs : List (Str × V)} {o : HO} {v : V} {y : KR × Nat × Nat} (hx : H x = some (.ins C dx fs)) (hl : fs.length = 3) (h : FlAt K H S v y) : FlAt K (upd H x o) S v y := by
  obtain ⟨t, a, ol, os, h1, h2, ⟨dr, c, ia, h3, dc, wa, ba, h7, h8, h9⟩, h4, h5, h6⟩ := h
  exact ⟨t, a, ol, os, h1, upd_ins3 hx hl h2 (fun _ _ _ _ z => nomatch z), ⟨dr, c, ia, upd_ins3 hx hl h3 (fun _ _ fs h => ins_len (by rw [h]; show 4 ≠ 3; decide)), dc, wa, ba, upd_ins3 hx hl h7 (fun _ _ fs h => ins_len (by rw [h]; show 2 ≠ 3; decide)), upd_ins3 hx hl h8 (fun _ _ _ _ z => nomatch z), upd_ins3 hx hl h9 (fun _ _ _ _ z => nomatch z)⟩,
    upd_ins3 hx hl h4 (fun _ _ _ _ z => nomatch z), h5, h6⟩
def spBookI (K : Frag) : Sp := fun vs H Q _ => ∃ (x fa oa dx : Addr) (ru : Str) (fs : List Str) (xs : List V) (fo : Fo) (F : Hp), vs = [.ref x, .ref fa, .ref oa, .str ru] ∧ H x = some (.ins (ga K "Book") dx []) ∧ Ex F H ∧ F x = none ∧ ST F fa fs ∧ F oa = some (.tup xs) ∧ RulesAt K F fo xs ∧
  FactsOK fs ∧ FlatOK fs (fo.flat 0 0) ∧ fo.ht < 8 ∧ isName ru = true ∧ ∀ H', Ex F H' → BookAt K H' x fs fo ru → Q .non H'
theorem sc_Book_init : FnScope ["self", "facts", "rules", "ruling"] ["self", "facts", "rules", "ruling"] (defScope sBookI) := ⟨rfl, rfl, rfl, by decide +kernel, rfl, by decide +kernel, by decide +kernel⟩
theorem ok_Book_init (T : TX P K mg) : OkF P w K mg base CX0 (9 + 1) (ma K (ga K "Book") "__init__") ["self", "facts", "rules", "ruling"] (spBookI K) := by
  refine OkF.mk0 T.d_Book_init sc_Book_init (fun _ _ _ _ _ _ us hl => match us, hl with | [_, _, _, _], _ => rfl) (fun vs H Q E h => ?_) (fun cdv A outs s H vs Q E hr h => ?_)
  · obtain ⟨_, _, _, _, _, _, _, _, _, rfl, _⟩ := h; rfl
  obtain ⟨x, fa, oa, dx, ru, fs, xs, fo, F, rfl, hx, eF, fx, hF, hX, hR, O, OF, hht, hru, q⟩ := h
  refine ⟨_, (pss_cons (ps_expr (pe_c (ok_validate_facts T) hr (by omega) T.g_validate_facts (E := E0) passN (pa_cons (pv 1) pa_nil)))
      (pss_cons (ps_fld (pv 0) (pv 1) rfl)
      (pss_cons (ps_fld (pv 0) (pv 2) rfl)
      (pss_cons (ps_fld (pv 0) (pv 3) rfl)
      (pss_cons (ps_fld (pv 0) (pe_c (ok_rows_of_books T 8) hr (by omega) T.g_rows_of_books (E := E0) passN (pa_cons (pv 2) (pa_cons (pe_lst pa_nil) pa_nil))) rfl)
      (pss_cons (ps_expr (pe_m0 (pv 0) T.c_Book T.m_validate_rows (ok_Book_validate_rows T) hr (by omega) (E := E0) passN))
      (pss_one (ps_if (pt_not (pt_val (pe_c (ok_is_name T) hr (by omega) T.g_is_name (E := E0) passN (pa_cons (pv 3) pa_nil)))) (pss_one ps_never) pss_nil)))))))), ?_⟩
  refine go_k (ea_cons (ev_var rfl) ea_nil) fun H1 e1 => ?_
  refine ⟨fa, fs, rfl, (eF.trans e1) _ _ hF, O, fun H2 e2 => ?_⟩
  have e02 := e1.trans e2
  refine ⟨_, rfl, _, rfl, x, _, dx, _, rfl, e02 x _ hx, T.c_Book, T.n_all_facts, by decide, ?_⟩
  refine ⟨_, rfl, _, rfl, x, _, dx, _, rfl, upd_same, T.c_Book, T.n_outermost, by show 1 < 1000; decide, ?_⟩
  refine ⟨_, rfl, _, rfl, x, _, dx, _, rfl, upd_same, T.c_Book, T.n_last_ruling, by show 2 < 1000; decide, ?_⟩
  -- the rows
  have eG := (((eF.trans e02).mut (o := .ins (ga K "Book") dx (putF "all_facts" (.ref fa) [])) fx).mut (o := .ins (ga K "Book") dx (putF "outermost" (.ref oa) (putF "all_facts" (.ref fa) []))) fx).mut (o := .ins (ga K "Book") dx (putF "last_ruling" (.str ru) (putF "outermost" (.ref oa) (putF "all_facts" (.ref fa) [])))) fx
  have hI : upd (upd (upd H2 x (.ins (ga K "Book") dx (putF "all_facts" (.ref fa) []))) x (.ins (ga K "Book") dx (putF "outermost" (.ref oa) (putF "all_facts" (.ref fa) [])))) x (.ins (ga K "Book") dx (putF "last_ruling" (.str ru) (putF "outermost" (.ref oa) (putF "all_facts" (.ref fa) [])))) x = some (.ins (ga K "Book") dx [("all_facts", .ref fa), ("outermost", .ref oa), ("last_ruling", .str ru)]) := by
    rw [upd_same]
    rfl
  revert eG hI
  generalize upd (upd (upd H2 x (.ins (ga K "Book") dx (putF "all_facts" (.ref fa) []))) x (.ins (ga K "Book") dx (putF "outermost" (.ref oa) (putF "all_facts" (.ref fa) [])))) x (.ins (ga K "Book") dx (putF "last_ruling" (.str ru) (putF "outermost" (.ref oa) (putF "all_facts" (.ref fa) [])))) = H3
  intro eG hI
  refine ⟨_, rfl, Nat.zero_le _, fun p0 hp0 => ?_⟩
  have e3 : Ex H3 (upd H3 p0 (.lst [])) := Ex.new hp0
  refine ⟨oa, p0, xs, [], fo, 0, rfl, e3 _ _ (eG _ _ hX), (hR.mono eG).mono e3, upd_same, rfl, hht, by omega, by have := OF.many; rw [fo.flat_len] at this; exact this, fun rl H4 rows e4 hrl h4 hA => ?_⟩
  have e34 := e3.trans e4
  refine ⟨_, rfl, x, _, dx, _, rfl, e34 _ _ hI, T.c_Book, T.n_rows, by show 3 < 1000; decide, ?_⟩
  have hI5 : BookIns K (upd H4 x (.ins (ga K "Book") dx (putF "rows" (.ref rl) [("all_facts", .ref fa), ("outermost", .ref oa), ("last_ruling", .str ru)]))) x fa oa ru rl := ⟨dx, by rw [upd_same]; rfl⟩
  have eG5 : Ex F (upd H4 x (.ins (ga K "Book") dx (putF "rows" (.ref rl) [("all_facts", .ref fa), ("outermost", .ref oa), ("last_ruling", .str ru)]))) := (eG.trans e34).mut fx
  have hrl5 : upd H4 x (.ins (ga K "Book") dx (putF "rows" (.ref rl) [("all_facts", .ref fa), ("outermost", .ref oa), ("last_ruling", .str ru)])) rl = some (.lst rows) := upd_ins3 (e34 _ _ hI) rfl h4 (fun _ _ _ _ z => nomatch z)
  have hA5 : All2 (FlAt K (upd H4 x (.ins (ga K "Book") dx (putF "rows" (.ref rl) [("all_facts", .ref fa), ("outermost", .ref oa), ("last_ruling", .str ru)]))) fun _ => True) rows (fo.flat 0 0) := hA.mono fun v k z => (z.imp fun _ _ => trivial).updI (e34 _ _ hI) rfl
  revert hI5 eG5 hrl5 hA5
  generalize upd H4 x (.ins (ga K "Book") dx (putF "rows" (.ref rl) [("all_facts", .ref fa), ("outermost", .ref oa), ("last_ruling", .str ru)])) = H5
  intro hI5 eG5 hrl5 hA5
  obtain ⟨d5, hI6⟩ := hI5
  refine go_m (ev_var rfl) hI6 rfl ea_nil fun H6 e6 => ?_
  refine ⟨x, fa, oa, rl, ru, fs, rows, _, _, rfl, ⟨d5, e6 _ _ hI6⟩, (eG5.trans e6) _ _ hF, e6 _ _ hrl5, hA5.mono fun v k z => z.mono e6, OF, fun H7 e7 => ?_⟩
  have hrl := name_le hru
  refine s_when (b := false) (et_is (et_not (et_B (ev_name (ev_var rfl) (by omega)))) (by rw [hru]; rfl)) (fun hb => nomatch hb) (fun _ H8 e8 => ?_)
  have e68 := (e6.trans e7).trans e8
  have eG8 := eG5.trans e68
  exact q H8 eG8 ⟨fa, oa, xs, rl, ⟨d5, e68 _ _ hI6⟩, eG8 _ _ hF, eG8 _ _ hX, hR.mono eG8⟩
end
end K56
set_option Elab.async false
set_option linter.all false
set_option maxRecDepth 100000
set_option maxHeartbeats 4000000
/-! K56, part P3: what was read is fit for a book. -/
namespace K56
open PySem PySem.W PyProof.Rows L2 Evl He
def rdB (rws : List (List Str)) : Sum (Nat × Nat) (List Str × List KR × Str) := match rdFacts ((rws[0]?).getD []) with
  | .inl e => .inl (0, e)
  | .inr fs => match bookGo fs (rws.drop 1) 1 [] with
    | .inl x => .inl x
    | .inr (ks, ru) => .inr (fs, ks, ru)
def resD : Sum (Nat × Nat) (List Str × List KR × Str) → PyData
  | .inl (k, e) => .tuple [.int k, .int e]
  | .inr (fs, ks, ru) => .tuple [tupS fs, .tuple (nest 7 0 ks).data, .str ru]
def rdText (t : Str) : PyData := resD (rdB (rowsT t))
theorem find_none {f : Nat → Bool} : ∀ (n s : Nat), (List.range' s n).find? f = none → ∀ i, s ≤ i → i < s + n → f i = false
  | 0, s, _, i, h1, h2 => absurd h2 (by omega)
  | n + 1, s, h, i, h1, h2 => by
    rw [List.range'_succ, List.find?_cons] at h
    cases hs : f s with
    | true =>
      rw [hs] at h
      cases h
    | false =>
      rw [hs] at h
      rcases Nat.eq_or_lt_of_le h1 with e | e
      · rw [← e]
        exact hs
      · exact find_none n (s + 1) h i e (by omega)
theorem facts_ok {ws fs : List Str} (h : rdFacts ws = .inr fs) : FactsOK fs ∧ ∀ z ∈ fs, isFree z = true := by
  unfold rdFacts at h
  split at h
  · split at h
    · cases h
    · rename_i h0 hn
      split at h
      · rename_i hl
        cases h
        have ok := find_none _ _ hn
        have free : ∀ i, 1 ≤ i → i < ws.length → isFree (wd ws i) = true ∧ (1 < i → ltS (wd ws (i - 1)) (wd ws i) = true) ∧ i ≤ 60 := fun i a b => by
          have := ok i a (by omega)
          unfold factBad at this
          rw [Bool.or_eq_false_iff, Bool.or_eq_false_iff] at this
          obtain ⟨h1, h2, h3⟩ := this
          refine ⟨by simpa using h1, fun hi => ?_, by have := of_decide_eq_false h3; omega⟩
          rw [decide_eq_true hi] at h2
          simpa using h2
        have hmem : ∀ z ∈ ws.drop 1, isFree z = true := fun z hz => by
          obtain ⟨i, hi, e⟩ := List.getElem_of_mem hz
          rw [List.length_drop] at hi
          have := (free (1 + i) (by omega) (by omega)).1
          rw [← wd_drop] at this
          rwa [show wd (ws.drop 1) i = z from by
            unfold wd
            rw [List.getElem?_eq_getElem (by rw [List.length_drop]; exact hi), e]
            rfl] at this
        refine ⟨⟨fun z => ?_, fun z hz => free_name (hmem z hz), fun i hi => ?_, ?_⟩, hmem⟩
        · have := congrArg List.length z
          rw [List.length_drop] at this
          simp at this
          omega
        · rw [List.length_drop] at hi
          have := (free (1 + (i + 1)) (by omega) (by omega)).2.1 (by omega)
          rw [wd_drop, wd_drop]
          exact this
        · rw [List.length_drop]
          have := (free (ws.length - 1) (by omega) (by omega)).2.2
          exact this
      · cases h
  · cases h
/-- the rules read so far -/
structure KGood (fs : List Str) (ks : List KR) : Prop where
  one : ∀ k ∈ ks, isFree k.nm = true ∧ isFree k.ru = true ∧ k.dp ≤ 5 ∧ (∀ z ∈ k.ho, z ∈ fs) ∧ (∀ z ∈ k.fa, z ∈ fs) ∧ k.ho.length + k.fa.length ≤ 8
  nd : (ks.map (·.nm)).Nodup
  len : ks.length ≤ 60
  out : outer ks ≤ 40
theorem kgood_nil (fs : List Str) : KGood fs [] := ⟨fun _ h => (by cases h), List.nodup_nil, Nat.zero_le _, Nat.zero_le _⟩
theorem deepest_le (ks : List KR) : deepest ks ≤ 5 := by
  rw [deepest_eq]
  exact Nat.min_le_left _ _
theorem rdCond_ok {fs ws h f : List Str} {k : Nat} (hk : k ≤ ws.length) (e : rdCond fs ws k = .inr (h, f)) : (∀ z ∈ h, z ∈ fs) ∧ (∀ z ∈ f, z ∈ fs) ∧ h.length + f.length ≤ 8 := by
  unfold rdCond at e
  cases h1 : rdIf fs [] 8 "if" ws k with
  | inl x =>
    rw [h1] at e
    cases e
  | inr x =>
    obtain ⟨h', k1⟩ := x
    rw [h1] at e
    have S1 := rdIf_ok hk h1
    replace e : (match rdIf fs h' (8 - h'.length) "not" ws k1 with
      | .inl e => Sum.inl e
      | .inr (f, k2) => if k2 = ws.length then .inr (h', f) else .inl k2) = .inr (h, f) := e
    cases h2 : rdIf fs h' (8 - h'.length) "not" ws k1 with
    | inl y =>
      rw [h2] at e
      cases e
    | inr y =>
      obtain ⟨f', k2⟩ := y
      rw [h2] at e
      have S2 := rdIf_ok S1.2.2 h2
      replace e : (if k2 = ws.length then Sum.inr (h', f') else .inl k2) = .inr (h, f) := e
      split at e
      · cases e
        exact ⟨fun z hz => (S1.1.mem z hz).1, fun z hz => (S2.1.mem z hz).1, by have := S1.1.len; have := S2.1.len; omega⟩
      · cases e
theorem free_lt {ws : List Str} {k : Nat} (h : isFree (wd ws k) = true) : k < ws.length := by
  rcases Nat.lt_or_ge k ws.length with c | c
  · exact c
  · rw [wd_out c, free_nil] at h
    cases h
theorem rrOf_ok {fs ws : List Str} {ks : List KR} {k : KR} (G : KGood fs ks) (e : rrOf fs ks ws = .inr k) : KGood fs (ks ++ [k]) := by
  unfold rrOf at e
  split at e
  · cases e
  · rename_i hc
    have hc := Classical.not_not.mp hc
    unfold rdRule at e
    split at e
    · cases e
    · rename_i hm
      split at e
      · cases e
      · rename_i hn
        split at e
        · cases e
        · split at e
          · cases e
          · rename_i hr
            have hr : isFree (wd ws (marks ws + 2)) = true := by simpa using hr
            have hlt := free_lt hr
            cases h2 : rdCond fs ws (marks ws + 3) with
            | inl y =>
              rw [h2] at e
              cases e
            | inr y =>
              obtain ⟨h, f⟩ := y
              rw [h2] at e
              replace e : (Sum.inr ⟨marks ws, wd ws (marks ws), h, f, wd ws (marks ws + 2)⟩ : Sum Nat KR) = .inr k := e
              cases e
              have C := rdCond_ok (by omega) h2
              have hn : isFree (wd ws (marks ws)) = true ∧ wd ws (marks ws) ∉ ks.map (·.nm) := by
                have : (isFree (wd ws (marks ws)) && !decide (wd ws (marks ws) ∈ ks.map (·.nm))) = true := by simpa using hn
                rw [Bool.and_eq_true] at this
                exact ⟨this.1, by simpa using this.2⟩
              refine ⟨fun x hx => ?_, ?_, by rw [List.length_append]; exact hc.1, ?_⟩
              · rcases List.mem_append.mp hx with q | q
                · exact G.one x q
                · rw [List.mem_singleton.mp q]
                  exact ⟨hn.1, hr, by have := deepest_le ks; show marks ws ≤ 5; omega, C⟩
              · rw [List.map_append, List.nodup_append]
                refine ⟨G.nd, by simp, fun a ha b hb => ?_⟩
                have hb' : b = wd ws (marks ws) := by simpa using hb
                rw [hb']
                intro z
                exact hn.2 (z ▸ ha)
              · unfold outer
                rw [List.filter_append, List.length_append]
                have := G.out
                unfold outer at this
                rcases hc.2 with q | q
                · have hm0 : marks ws ≠ 0 := by
                    have hl : 0 < ws.length := by
                      rcases Nat.lt_or_ge 0 ws.length with c | c
                      · exact c
                      · rw [wd_out c] at q
                        exact absurd q (by decide)
                    have := marks_step (k := 0) q hl
                    rw [List.drop_zero] at this
                    omega
                  rw [List.filter_cons_of_neg (by simpa using hm0)]
                  simpa using this
                · unfold outer at q
                  have : ([(⟨marks ws, wd ws (marks ws), h, f, wd ws (marks ws + 2)⟩ : KR)].filter fun r => decide (r.dp = 0)).length ≤ 1 := List.length_filter_le _ _
                  omega
/-! ### the rows of a book made of them -/
def Fo.all : Fo → List KR
  | .nil => []
  | .cons k i r => k :: (i.all ++ r.all)
theorem Fo.flat_all : ∀ (f : Fo) (m c : Nat), (f.flat m c).map (·.1) = f.all
  | .nil, _, _ => rfl
  | .cons k i r, m, c => by
    show k :: (i.flat (m + 1) 0 ++ r.flat m (c + 1)).map (·.1) = k :: (i.all ++ r.all)
    rw [List.map_append, i.flat_all, r.flat_all]
theorem nestW_drop {f : List KR → Fo} {d : Nat} : ∀ l : List KR, nestW f d (l.dropWhile (above d)) = nestW f d l
  | [] => rfl
  | k :: r => by
    rw [List.dropWhile_cons]
    split
    · rename_i h
      have hd : d < k.dp := of_decide_eq_true h
      rw [nestW_drop r]
      show _ = (if _ then _ else _)
      rw [if_neg (by omega)]
    · rfl
theorem nestW_sub {f : List KR → Fo} {d : Nat} (hf : ∀ l, (f l).all.Sublist l) : ∀ (n : Nat) (l : List KR), l.length ≤ n → (nestW f d l).all.Sublist l
  | _, [], _ => List.Sublist.refl _
  | 0, k :: r, h => absurd h (by simp)
  | n + 1, k :: r, h => by
    rw [List.length_cons] at h
    unfold nestW
    split
    · show (k :: ((f _).all ++ (nestW f d r).all)).Sublist _
      refine List.Sublist.cons₂ k ?_
      rw [← nestW_drop r]
      have h1 := hf (r.takeWhile (above d))
      have h2 := nestW_sub (d := d) hf n (r.dropWhile (above d)) (by
        have := (List.dropWhile_sublist (above d) (l := r)).length_le
        omega)
      have := h1.append h2
      rwa [List.takeWhile_append_dropWhile] at this
    · exact (nestW_sub hf n r (by omega)).cons k
theorem nest_sub : ∀ (n d : Nat) (l : List KR), (nest n d l).all.Sublist l
  | 0, _, l => List.nil_sublist l
  | n + 1, d, l => nestW_sub (nest_sub n (d + 1)) l.length l (Nat.le_refl _)
theorem Fo.sz_all : ∀ f : Fo, f.sz = f.all.length
  | .nil => rfl
  | .cons k i r => by
    show 1 + i.sz + r.sz = (i.all ++ r.all).length + 1
    rw [List.length_append, i.sz_all, r.sz_all]
    omega
/-- at the m-th level stand rules of that depth -/
def Fo.lev : Fo → Nat → Prop
  | .nil, _ => True
  | .cons k i r, m => k.dp = m ∧ i.lev (m + 1) ∧ r.lev m
theorem nestW_lev {f : List KR → Fo} {d : Nat} (hf : ∀ l, (f l).lev (d + 1)) : ∀ l, (nestW f d l).lev d
  | [] => trivial
  | k :: r => by
    unfold nestW
    split
    · rename_i h
      exact ⟨h, hf _, nestW_lev hf r⟩
    · exact nestW_lev hf r
theorem nest_lev : ∀ (n d : Nat) (l : List KR), (nest n d l).lev d
  | 0, _, _ => trivial
  | n + 1, d, l => nestW_lev (nest_lev n (d + 1)) l
theorem flat_lev : ∀ (f : Fo) (m c : Nat), f.lev m → ∀ x ∈ f.flat m c, x.1.dp = x.2.1
  | .nil, _, _, _, x, h => by cases h
  | .cons k i r, m, c, l, x, h => by
    rcases List.mem_cons.mp h with q | q
    · rw [q]
      exact l.1
    · rcases List.mem_append.mp q with q | q
      · exact flat_lev i (m + 1) 0 l.2.1 x q
      · exact flat_lev r m (c + 1) l.2.2 x q
/-- the places at the outermost level -/
theorem flat_low : ∀ (f : Fo) (m c : Nat), ∀ x ∈ f.flat m c, m ≤ x.2.1
  | .nil, _, _, x, h => by cases h
  | .cons k i r, m, c, x, h => by
    rcases List.mem_cons.mp h with q | q
    · rw [q]
      exact Nat.le_refl _
    · rcases List.mem_append.mp q with q | q
      · have := flat_low i (m + 1) 0 x q
        omega
      · exact flat_low r m (c + 1) x q
theorem flat_out : ∀ (f : Fo) (c : Nat), ∀ x ∈ f.flat 0 c, x.2.1 = 0 → x.2.2 < c + f.data.length
  | .nil, _, x, h, _ => by cases h
  | .cons k i r, c, x, h, h0 => by
    rw [show (Fo.cons k i r).data.length = r.data.length + 1 from rfl]
    rcases List.mem_cons.mp h with q | q
    · rw [q]
      show c < _
      omega
    · rcases List.mem_append.mp q with q | q
      · have := flat_low i 1 0 x q
        omega
      · have := flat_out r (c + 1) x q h0
        omega
theorem nestW_outer {f : List KR → Fo} : ∀ l : List KR, (nestW f 0 l).data.length = outer l
  | [] => rfl
  | k :: r => by
    unfold nestW outer
    rw [List.filter_cons]
    by_cases h : k.dp = 0
    · rw [if_pos h, if_pos (decide_eq_true h)]
      show (nestW f 0 r).data.length + 1 = _
      rw [nestW_outer r]
      rfl
    · rw [if_neg h, if_neg (by rw [decide_eq_false h]; decide)]
      exact nestW_outer r
theorem flat_ok {fs : List Str} {ks : List KR} (G : KGood fs ks) : FlatOK fs ((nest 7 0 ks).flat 0 0) := by
  have hs := nest_sub 7 0 ks
  have hm : ∀ x ∈ (nest 7 0 ks).flat 0 0, x.1 ∈ ks := fun x hx => hs.subset (by
    rw [← Fo.flat_all _ 0 0]
    exact List.mem_map_of_mem hx)
  refine ⟨?_, fun x hx => ?_, fun x hx => ?_, ?_, fun x hx h0 => ?_⟩
  · have e : (((nest 7 0 ks).flat 0 0).map fun x => x.1.nm) = (nest 7 0 ks).all.map (·.nm) := by
      rw [← Fo.flat_all _ 0 0, List.map_map]
      rfl
    rw [e]
    exact (hs.map _).nodup G.nd
  · have := G.one _ (hm x hx)
    exact this.2.2.2
  · rw [← flat_lev _ 0 0 (nest_lev 7 0 ks) x hx]
    exact (G.one _ (hm x hx)).2.2.1
  · rw [Fo.flat_len, Fo.sz_all]
    have := hs.length_le
    have := G.len
    omega
  · have := flat_out _ 0 x hx h0
    rw [show (nest 7 0 ks).data.length = outer ks from nestW_outer ks] at this
    have := G.out
    omega
end K56
set_option Elab.async false
set_option linter.all false
set_option maxRecDepth 100000
set_option maxHeartbeats 4000000
/-! K56, part D9: the whole reader. -/
namespace K56
open PySem PySem.W PyProof.Rows L2 Evl He
theorem KAt.updL {K : Frag} {H : Hp} {l : Addr} {xs : List V} {o : HO} {v : V} {k : KR} (hl : H l = some (.lst xs)) (h : KAt K H v k) : KAt K (upd H l o) v k := by
  obtain ⟨t, c, h1, h2, h3⟩ := h
  exact ⟨t, c, h1, ex_updL hl h2 (fun _ z => nomatch z), h3.updL hl⟩
def RowR (H : Hp) (v : V) (ws : List Str) : Prop := ∃ a, v = .ref a ∧ SL H a ws ∧ ws.length ≤ 30000 ∧ ∀ z ∈ ws, z.length ≤ 30000
theorem RowR.mono {H H' : Hp} {v : V} {ws : List Str} (h : RowR H v ws) (e : Ex H H') : RowR H' v ws := by
  obtain ⟨a, h1, h2, h3⟩ := h
  exact ⟨a, h1, e _ _ h2, h3⟩
section
variable {P : Program} {w : World} {K : Frag} {mg : Str → Option Value} {base : Heap}
def spBookOf (K : Frag) : Sp := fun vs H Q E => ∃ (ra : Addr) (xs : List V) (rws : List (List Str)), vs = [.ref ra] ∧ H ra = some (.lst xs) ∧ All2 (RowR H) xs rws ∧ rws ≠ [] ∧ xs.length ≤ 30000 ∧
  (∀ fs ks ru, rdB rws = .inr (fs, ks, ru) → ∀ b H', Ex H H' → BookAt K H' b fs (nest 7 0 ks) ru → Q (.ref b) H') ∧ (∀ k e : Nat, rdB rws = .inl (k, e) → Rz K H k e E)
theorem sc_book_of : FnScope ["rows", "facts", "known", "number", "words", "row", "ruling"] ["rows"] (defScope sBookOf) := ⟨rfl, rfl, rfl, by decide +kernel, rfl, by decide +kernel, by decide +kernel⟩
theorem ok_book_of (T : TX P K mg) : OkF P w K mg base (L2.CX P w) (13 + 1) (ga K "book_of") ["rows"] (spBookOf K) := by
  refine OkF.mkX T.d_book_of sc_book_of (fun _ _ _ _ _ _ us hl => match us, hl with | [_], _ => rfl) (fun vs H Q E h => ?_) (fun cdv A outs s H vs Q E hr h => ?_)
  · obtain ⟨_, _, _, rfl, _⟩ := h; rfl
  obtain ⟨ra, xs, rws, rfl, hX, hA, hne, hxl, q1, q2⟩ := h
  refine ⟨_, (pss_cons (ps_par (i := 1) (j := 2) rfl sc_book_of.nd rfl rfl (by decide) rfl rfl (pa_cons (pe_c (ok_read_facts T) hr (by omega) T.g_read_facts (passes_call (takes_of rfl rfl rfl rfl) (fun _ _ _ _ h => h)) (pa_cons (pe_mk T.k_Row (ok_Row_init T) hr (by omega) T.g_Row (E := E0) passN (pa_cons pe_int (pa_cons (pe_ix ix_list (pv 0) pe_int (fun _ _ => rfl)) pa_nil))) pa_nil)) (pa_cons (pe_lst pa_nil) pa_nil)) rfl)
      (pss_cons (ps_for (passes_of rfl) rfl (pi_enum (by rfl) T.b_enumerate (pa_cons (pe_slice sl_list (pv 0) (po_some pe_int) po_none) pa_nil)) (pg_tup rfl (pgs_cons (pg_name (i := 3) sc_book_of.nd rfl (Or.inl rfl)) (pgs_cons (pg_name (i := 4) sc_book_of.nd rfl (Or.inl rfl)) pgs_nil))) (pss_cons (ps_set (i := 5) sc_book_of.nd rfl (Or.inl rfl) (pe_mk T.k_Row (ok_Row_init T) hr (by omega) T.g_Row (E := E0) passN (pa_cons (pe_op op_add (pv 3) pe_int) (pa_cons (pv 4) pa_nil))))
      (pss_cons (ps_if (pt_cmpR op_eq (pe_m0 (pv 5) T.c_Row T.m_peek (ok_Row_peek T) hr (by omega) (E := E0) passN) pe_str (nomark _)) (pss_cons (ps_expr (pe_m (pv 5) T.c_Row T.m_take (ok_Row_take T) hr (by omega) (passes_call (takes_of rfl rfl rfl rfl) (fun _ _ _ _ h => h)) (pa_cons pe_bl pa_nil)))
      (pss_cons (ps_set (i := 6) sc_book_of.nd rfl (Or.inl rfl) (pe_m0 (pv 5) T.c_Row T.m_take_name (ok_Row_take_name T) hr (by omega) (passes_call (takes_of rfl rfl rfl rfl) (fun _ _ _ _ h => h))))
      (pss_cons (ps_expr (pe_m0 (pv 5) T.c_Row T.m_end (ok_Row_end T) hr (by omega) (passes_call (takes_of rfl rfl rfl rfl) (fun _ _ _ _ h => h))))
      (pss_cons (ps_if (pt_cmpR op_gt (pe_callB call_len_seq (by rfl) T.b_len PySem.boot_len (pa_cons (pv 0) pa_nil)) (pe_op op_add (pv 3) pe_int) (nomark _)) (pss_one (ps_raiseIT rfl T.it hr (takes_of rfl rfl rfl rfl) (pk_cons (pe_op op_add (pv 3) pe_int) (pk_cons pe_int pk_nil)))) pss_nil)
      (pss_one (ps_ret (pe_mk T.k_Book (ok_Book_init T) hr (by omega) T.g_Book (E := E0) passN (pa_cons (pv 1) (pa_cons (pe_c (ok_rules_of T 7) hr (by omega) T.g_rules_of (E := E0) passN (pa_cons (pv 2) (pa_cons pe_int pa_nil))) (pa_cons (pv 6) pa_nil)))))))))) pss_nil)
      (pss_one (ps_expr (pe_bm PySem.F.plainAttrs_list PySem.F.slot_list_append PySem.F.type_list_append mt_append (pv 2) (pa_cons (pe_c (ok_read_rule T) hr (by omega) T.g_read_rule (passes_call (takes_of rfl rfl rfl rfl) (fun _ _ _ _ h => h)) (pa_cons (pv 5) (pa_cons (pv 1) (pa_cons (pv 2) pa_nil)))) pa_nil)))))))
      (pss_one (ps_raiseIT rfl T.it hr (takes_of rfl rfl rfl rfl) (pk_cons (pe_callB call_len_seq (by rfl) T.b_len PySem.boot_len (pa_cons (pv 0) pa_nil)) (pk_cons pe_int pk_nil)))))), ?_⟩
  obtain ⟨w0, hw0⟩ : ∃ w0, rws[0]? = some w0 := by
    cases rws with
    | nil => exact absurd rfl hne
    | cons a r => exact ⟨a, rfl⟩
  obtain ⟨v0, hv0, a0, rfl, hL0, hl0, hs0⟩ := hA.get hw0
  have hlen : xs.length = rws.length := hA.1
  have hpos : 1 ≤ rws.length := by
    have := (List.getElem?_eq_some_iff.mp hw0).1
    omega
  refine op_par (op_cons (op_k (op_cons ?_)))
  refine go_mk (ea_cons ev_c (ea_cons (ev_op (ev_var rfl) ev_c (rv_ixL (sq_of hX) (at_eq (atI_nat (j := 0) hv0) rfl))) ea_nil)) fun H1 e1 x dx hx hdx ne => ?_
  refine ⟨x, dx, 0, a0, H1, rfl, upd_same, ex_inst hx hdx ne, hx, fun H2 e2 hR => ⟨rfl, ?_⟩⟩
  refine ⟨H1, x, 0, a0, w0, rfl, ⟨e1 _ _ hL0, hl0, hs0, e2, hx, hR, Nat.zero_le _⟩, fun fs hfs fa H3 e3 hF => ?_, fun k hk => ?_⟩
  rotate_left
  · refine (q2 0 k ?_).mono e1
    unfold rdB
    rw [hw0]
    show (match rdFacts w0 with
      | .inl e => _
      | .inr fs => _) = _
    rw [hk]
  have hrd : rdB rws = (match bookGo fs (rws.drop 1) 1 [] with
    | .inl x => .inl x
    | .inr (ks, ru) => .inr (fs, ks, ru)) := by
    unfold rdB
    rw [hw0]
    show (match rdFacts w0 with
      | .inl e => _
      | .inr fs => _) = _
    rw [hfs]
    all_goals rfl
  obtain ⟨FO, hfree⟩ := facts_ok hfs
  refine ⟨Nat.zero_le _, fun kl hkl => ⟨_, _, rfl, ?_⟩⟩
  have e13 := e1.trans e3
  have nkl : H kl = none := fresh_back e13 hkl
  have hK0 : upd H3 kl (.lst []) kl = some (.lst []) := upd_same
  have e14 : Ex H (upd H3 kl (.lst [])) := e13.trans (Ex.new hkl)
  have hF4 : ST (upd H3 kl (.lst [])) fa fs := Ex.new hkl _ _ hF
  revert hK0 e14 hF4
  generalize upd H3 kl (.lst []) = H4
  intro hK0 e14 hF4
  refine q_forEN (xs := xs.drop 1) (fun Q k => ?_) (fun a j σ' H' => ∃ vs ks x3 x4 x5, σ' = [some (.ref ra), some (.ref fa), some (.ref kl), x3, x4, x5, none] ∧ Ex H H' ∧ ST H' fa fs ∧ H' kl = some (.lst vs) ∧ All2 (KAt K H') vs ks ∧ KGood fs ks ∧
      bookGo fs (rws.drop 1) 1 [] = bookGo fs (rws.drop (j + 1)) (j + 1) ks ∧ H' a = some (.lst (xs.drop 1)) ∧ a ≠ kl)
    (fun a H5 na e5 h5 => ⟨[], [], none, none, none, rfl, e14.trans e5, e5 _ _ hF4, e5 _ _ hK0, All2.nil, kgood_nil fs, rfl, h5, fun z => by rw [z, hK0] at na; cases na⟩) (fun a j σ' H' p => ?_) (fun a j v σ' H' U H5 hv p e5 hU => ?_) (fun a σ' H' p => ?_)
  · refine go_sl (ev_var rfl) (eo_some ev_c) eo_none (sq_of (e14 _ _ hX)) fun p H5 hp e5 h5 => k p H5 hp e5 ?_
    rw [h5, cut_one]
  · obtain ⟨_, _, _, _, _, _, _, _, _, _, _, _, a8, _⟩ := p
    exact a8
  · obtain ⟨vs, ks, x3, x4, x5, rfl, a1, a2, a3, a4, a5, a6, a7, a8⟩ := p
    refine g_two hU ?_
    -- the row
    rw [List.getElem?_drop] at hv
    obtain ⟨ws, hws, wa, rfl, hW, hwl, hwsm⟩ := hA.getV hv
    have hjl : j + 1 < rws.length := by
      have := (List.getElem?_eq_some_iff.mp hws).1
      omega
    have hdrop : rws.drop (j + 1) = ws :: rws.drop (j + 2) := by
      rw [List.drop_eq_getElem_cons hjl]
      congr 1
      rw [Nat.add_comm 1 j] at hws
      exact Option.some.inj ((List.getElem?_eq_getElem hjl).symm.trans hws)
    rw [hdrop] at a6
    refine op_asg ?_
    refine go_mk (ea_cons (ev_op (ev_var rfl) ev_c rv_I0) (ea_cons (ev_var rfl) ea_nil)) fun H6 e6 y dy hy hdy ney => ?_
    have e06 := (a1.trans e5).trans e6
    refine ⟨y, dy, _, wa, H6, rfl, upd_same, ex_inst hy hdy ney, hy, fun H7 e7 hR7 => ⟨rfl, ?_⟩⟩
    have R7 : RF K H6 H7 y ((j : Int) + 1) wa ws 0 := ⟨e06 _ _ hW, hwl, hwsm, e7, hy, hR7, Nat.zero_le _⟩
    have e56 := e5.trans e6
    have hk6 : H6 kl = some (.lst vs) := e56 _ _ a3
    have hF6 : ST H6 fa fs := e56 _ _ a2
    have hA6 : All2 (KAt K H6) vs ks := a4.mono fun v k z => z.mono e56
    refine q_when (et_test (ev_op (ev_peek R7 rfl) ev_c rv_eqs)) (fun hb H8 e8 => ?_) (fun hb H8 e8 => ?_)
    · have hw : wd ws 0 = "else" := of_decide_eq_true hb
      have hbg : bookGo fs (rws.drop 1) 1 [] = (if isFree (wd ws 1) = false then .inl (j + 1, 1) else if 2 < ws.length then .inl (j + 1, 2) else if rws.drop (j + 2) ≠ [] then .inl (j + 1 + 1, 0) else .inr (ks, wd ws 1)) := by
        rw [a6]
        show (if _ then _ else _) = _
        rw [if_pos hw]
      have err : ∀ k e : Nat, bookGo fs (rws.drop 1) 1 [] = .inl (k, e) → Rz K H6 k e E := fun k e h => (q2 k e (by rw [hrd, h])).mono e06
      refine go_take (b := true) (R7.mono e8) rfl ev_c (fun e => absurd hw (by rw [wd_out (Nat.le_of_eq e.symm)]; decide)) (fun _ H9 R9 => ?_) (fun h => nomatch h)
      refine go_takeN R9 rfl (fun hf H10 R10 => ?_) (fun hf => err (j + 1) 1 (by rw [hbg, if_pos hf]))
      refine go_end R10 rfl (fun he H11 e11 => ?_) (fun he => err (j + 1) 2 (by rw [hbg, if_neg (by rw [show wd ws 1 = wd ws (0 + 1) from rfl, hf]; decide), if_pos (by have := R10.le; omega)]))
      have hbg2 : bookGo fs (rws.drop 1) 1 [] = (if rws.drop (j + 2) ≠ [] then .inl (j + 1 + 1, 0) else .inr (ks, wd ws 1)) := by
        rw [hbg, if_neg (by rw [show wd ws 1 = wd ws (0 + 1) from rfl, hf]; decide), if_neg (by omega)]
      have e611 : Ex H6 H11 := R10.ex.trans e11
      have e0b := e06.trans e611
      dsimp only
      refine q_when (et_test (ev_op (ev_len (ev_var rfl) (sq_of (e0b _ _ hX))) (ev_op (ev_var rfl) ev_c rv_I0) rv_I0)) (fun hb H12 e12 => ?_) (fun hb H12 e12 => ?_)
      · have hlt : j + 2 < rws.length := by
          have := of_decide_eq_true hb
          omega
        refine s_raise (F := H12) (n := ((j + 1 + 1 : Nat) : Int)) (p := ((0 : Nat) : Int)) (ea_cons (ev_is (ev_op (ev_var rfl) ev_c rv_I0) (by congr 1)) (ea_cons ev_c ea_nil)) (Ex.refl _) ((err (j + 1 + 1) 0 ?_).mono (e611.trans e12))
        rw [hbg2, if_pos]
        intro z
        have := congrArg List.length z
        rw [List.length_drop] at this
        simp at this
        omega
      · have hge : rws.length ≤ j + 2 := by
          have := of_decide_eq_false hb
          omega
        rw [if_neg (fun h => h (List.drop_eq_nil_of_le hge))] at hbg2
        have e6c := e611.trans e12
        have hone := a5.one
        -- the book
        refine ⟨_, rfl, go_k (ea_cons (ev_var rfl) (ea_cons ev_c ea_nil)) fun H13 e13 => ?_⟩
        have e6d := e6c.trans e13
        refine ⟨kl, vs, ks, 0, rfl, e6d _ _ hk6, hA6.mono fun v k z => z.mono e6d, a5.len, fun k hk => ⟨Nat.zero_le _, (hone k hk).2.2.1, free_name (hone k hk).1, free_name (hone k hk).2.1⟩, by omega, by omega, fun oa H14 vs2 e14' h14 hRu => ?_⟩
        refine ⟨_, rfl, ?_⟩
        intro z dz hz hdz nez
        have e6e := e6d.trans e14'
        refine ⟨z, fa, oa, dz, wd ws 1, fs, vs2, nest 7 0 ks, H14, rfl, upd_same, ex_inst hz hdz nez, hz, e6e _ _ hF6, h14, hRu, FO, flat_ok a5, ?_, free_name hf, fun H15 e15 hB => ⟨rfl, ?_⟩⟩
        · have := nest_ht 7 0 ks
          omega
        · exact q1 fs ks (wd ws 1) (by rw [hrd, hbg2]) z H15 ((e06.trans e6e).trans e15) hB
    · have hw : wd ws 0 ≠ "else" := of_decide_eq_false hb
      have hbg : bookGo fs (rws.drop 1) 1 [] = (match rrOf fs ks ws with
          | .inl e => .inl (j + 1, e)
          | .inr kr => bookGo fs (rws.drop (j + 2)) (j + 2) (ks ++ [kr])) := by
        rw [a6]
        show (if _ then _ else _) = _
        rw [if_neg hw]
        unfold rrOf
        split
        · rfl
        · rfl
      have R8 := R7.mono e8
      refine ⟨_, rfl, .inl ⟨rfl, _, sq_of (R8.ex _ _ hk6)⟩, ?_⟩
      refine go_k (ea_cons (ev_var rfl) (ea_cons (ev_var rfl) (ea_cons (ev_var rfl) ea_nil))) fun H9 e9 => ?_
      refine ⟨H6, y, (j : Int) + 1, wa, ws, fa, kl, fs, vs, ks, rfl, R8.mono e9, hF6, hfree, hk6, hA6, a5.len, fun k hk v H10 e10 hv10 => ?_, fun e he => (q2 (j + 1) e (by rw [hrd, hbg, he])).mono e06⟩
      have hk10 : H10 kl = some (.lst vs) := e10 _ _ hk6
      have e510 := e56.trans e10
      refine ⟨kl, vs, v, rfl, rfl, hk10, sz_lt (by have := a5.len; have := hA6.1; omega), vs ++ [v], ks ++ [k], _, _, _, rfl, ((a1.trans e510)).mut nkl, ex_updL hk10 (e510 _ _ a2) (fun _ z => nomatch z), upd_same, All2.snoc (hA6.mono fun v k z => (z.mono e10).updL hk10) (hv10.updL hk10), rrOf_ok a5 hk, ?_, ?_, a8⟩
      · rw [hbg, hk]
      · rw [upd_ne a8]
        exact e510 _ _ a7
  · obtain ⟨vs, ks, x3, x4, x5, rfl, a1, a2, a3, a4, a5, a6, a7, a8⟩ := p
    rw [List.length_drop, show xs.length - 1 + 1 = rws.length by omega, List.drop_eq_nil_of_le (Nat.le_refl _)] at a6
    refine s_raise (F := H') (n := ((rws.length : Nat) : Int)) (p := ((0 : Nat) : Int)) (ea_cons (ev_is (ev_len (ev_var rfl) (sq_of (a1 _ _ hX))) (by rw [hlen])) (ea_cons ev_c ea_nil)) (Ex.refl _) ((q2 rws.length 0 ?_).mono a1)
    rw [hrd, a6]
    rfl
end
end K56
set_option Elab.async false
set_option linter.all false
set_option maxRecDepth 100000
set_option maxHeartbeats 4000000
/-! K56, part D10: a text's rows; parse_book. -/
namespace K56
open PySem PySem.W PyProof.Rows L2 Evl He
theorem le_sum {l : List Nat} {n : Nat} (h : n ∈ l) : n ≤ l.sum := by
  induction l with
  | nil => cases h
  | cons a r ih =>
    rw [List.sum_cons]
    rcases List.mem_cons.mp h with q | q
    · omega
    · have := ih q
      omega
theorem split_small {x y : Str} (hy : 1 ≤ y.length) : (Txt.split x y).length ≤ x.length + 1 ∧ ∀ z ∈ Txt.split x y, z.length ≤ x.length := by
  have h := split_weight x y hy
  have h1 := split_pos x y
  refine ⟨by omega, fun z hz => ?_⟩
  have := le_sum (List.mem_map_of_mem (f := fun z : Str => z.length) hz)
  omega
abbrev rSp : V → List V → Hp → VK → Prop := fun x xs H Q => ∃ a b, x = .str a ∧ xs = [.str b] ∧ (b.length == 0) = false ∧ a.length + 2 ≤ sizeLine ∧ rNewStrs (Txt.split a b) H Q
theorem RowR.updL {H : Hp} {l : Addr} {o : HO} {v : V} {ws : List Str} (h : RowR H v ws) (hn : v ≠ .ref l) : RowR (upd H l o) v ws := by
  obtain ⟨a, h1, h2, h3⟩ := h
  exact ⟨a, h1, by show upd H l o a = _; rw [upd_ne (fun e => hn (by rw [h1, e]))]; exact h2, h3⟩
theorem go_rows {K : Frag} {i j : Nat} {vs : List Nat} {t : Str} {σ : L2.St} {H : Hp} {Q : VK} (hi : σ[i]? = some (some (.str t))) (ht : t.length ≤ 20000) (hw : ∀ x, wipe ((wipe σ vs).set j (some x)) vs = wipe σ vs) (hj : ∀ x, ((wipe σ vs).set j (some x))[j]? = some (some x))
    (k : ∀ p H' xs, H p = none → Ex H H' → H' p = some (.lst xs) → All2 (RowR H') xs (rowsT t) → Q (.ref p) H') : tLc (iList K (tM1 rSp (tVar i) (tC (.str "\n")))) (gName j) tYes (tM1 rSp (tVar j) (tC (.str " "))) vs σ H Q := by
  have hs := split_small (x := t) (y := "\n") (by decide)
  refine ⟨_, hi, ⟨_, rfl⟩, t, "\n", rfl, rfl, by decide, sz_of (by omega), fun p hp => ⟨p, rfl, ⟨_, sq_of upd_same⟩, fun D hD => ?_⟩⟩
  have hpD : upd H p (.lst ((Txt.split t "\n").map V.str)) p = some (.lst ((Txt.split t "\n").map V.str)) := upd_same
  have eH : Ex H (upd H p (.lst ((Txt.split t "\n").map V.str))) := Ex.new hp
  revert hpD eH hD
  generalize upd H p (.lst ((Txt.split t "\n").map V.str)) = H1
  intro hD hpD eH
  refine lc_list (K := K) (a := p) (xs := (Txt.split t "\n").map V.str) (fun n H' => ∃ acc, Ex H1 H' ∧ H' D = some (.lst acc) ∧ All2 (fun v ws => RowR H' v ws ∧ v ≠ .ref D) acc ((rowsT t).take n)) ⟨[], Ex.new hD, upd_same, All2.nil⟩ (fun n H' _ q => ?_) (fun n x H' hx q => ?_) (fun H' q => ?_)
  · obtain ⟨acc, q1, _⟩ := q
    exact sq_of (q1 _ _ hpD)
  · obtain ⟨acc, q1, q2, q3⟩ := q
    rw [List.getElem?_map] at hx
    obtain ⟨z, hz, rfl⟩ : ∃ z, (Txt.split t "\n")[n]? = some z ∧ x = .str z := by
      cases h : (Txt.split t "\n")[n]? with
      | none =>
        rw [h] at hx
        cases hx
      | some z =>
        rw [h] at hx
        exact ⟨z, rfl, (Option.some.inj hx).symm⟩
    have hzl := hs.2 z (List.mem_of_getElem? hz)
    have hs2 := split_small (x := z) (y := " ") (by decide)
    have hn : n < (Txt.split t "\n").length := (List.getElem?_eq_some_iff.mp hz).1
    have hrow : (rowsT t)[n]? = some (Txt.split z " ") := by
      show ((Txt.split t "\n").map _)[n]? = _
      rw [List.getElem?_map, hz]
      rfl
    refine ⟨hw _, ?_⟩
    show tM1 rSp (tVar j) (tC (.str " ")) _ _ _
    refine ⟨_, hj _, ⟨_, rfl⟩, z, " ", rfl, rfl, by decide, sz_of (by omega), fun q hq => ?_⟩
    have nqD : q ≠ D := fun e => by
      rw [e, q2] at hq
      cases hq
    have hacc : acc.length ≤ n := by
      rw [q3.1, List.length_take]
      omega
    have hDq : upd H' q (.lst ((Txt.split z " ").map V.str)) D = some (.lst acc) := by
      rw [upd_ne nqD.symm]
      exact q2
    refine ⟨acc, hDq, sz_lt (by omega), acc ++ [.ref q], ?_, upd_same, ?_⟩
    · exact (q1.trans (Ex.new hq)).mut hD
    · rw [List.take_succ, hrow]
      refine All2.snoc (q3.mono fun v ws h => ⟨(h.1.mono (Ex.new hq)).updL h.2, h.2⟩) ⟨⟨q, rfl, ?_, by omega, fun y hy => by have := hs2.2 y hy; omega⟩, fun e => nqD (V.ref.inj e)⟩
      show upd (upd H' q _) D _ q = _
      rw [upd_ne nqD, upd_same]
  · obtain ⟨acc, q1, q2, q3⟩ := q
    rw [List.length_map, List.take_of_length_le (by show ((Txt.split t "\n").map _).length ≤ _; rw [List.length_map]; exact Nat.le_refl _)] at q3
    exact k D H' acc (fresh_back eH hD) (eH.trans q1) q2 (q3.mono fun v ws h => h.1)
theorem rowsT_ne (t : Str) : rowsT t ≠ [] := fun e => by
  have h := split_pos t "\n"
  have e2 := congrArg List.length e
  rw [show (rowsT t).length = (Txt.split t "\n").length from List.length_map _] at e2
  have : ([] : List (List Str)).length = 0 := rfl
  omega
theorem rowsT_pos {t : Str} : ∀ ws ∈ rowsT t, 1 ≤ ws.length := fun ws h => by
  obtain ⟨z, _, rfl⟩ := List.mem_map.mp h
  exact split_pos z " "
theorem rowsT_len {t : Str} : (rowsT t).length ≤ t.length + 1 := by
  rw [show (rowsT t).length = (Txt.split t "\n").length from List.length_map _]
  exact (split_small (by decide)).1
section
variable {P : Program} {w : World} {K : Frag} {mg : Str → Option Value} {base : Heap}
def spRowsN : Sp := fun vs H Q _ => ∃ t : Str, vs = [.str t] ∧ t.length ≤ 20000 ∧ ∀ p H' xs, H p = none → Ex H H' → H' p = some (.lst xs) → All2 (RowR H') xs (rowsT t) → Q (.ref p) H'
theorem sc_rows_of_notation : FnScope ["text", "row"] ["text"] (defScope sRowsN) := ⟨rfl, rfl, rfl, by decide +kernel, rfl, by decide +kernel, by decide +kernel⟩
theorem ok_rows_of_notation (T : TX P K mg) : OkF P w K mg base CX0 (0 + 1) (ga K "rows_of_notation") ["text"] spRowsN := by
  refine OkF.mk0 T.d_rows_of_notation sc_rows_of_notation (fun _ _ _ _ _ _ us hl => match us, hl with | [_], _ => rfl) (fun vs H Q E h => ?_) (fun cdv A outs s H vs Q E hr h => ?_)
  · obtain ⟨_, rfl, _⟩ := h; rfl
  obtain ⟨t, rfl, ht, q⟩ := h
  refine ⟨_, (pss_one (ps_ret (pe_lc (own := [("row", 1)]) (g := (gName 1)) (tt := tYes)  rfl sc_rows_of_notation.nd (pi_list (pe_split (pv 0) pe_str)) (blkOk_by (own := [("row", 1)]) (N := ["text", "row"]) (sc := defScope sRowsN) (by decide +kernel)) (fun _ _ _ _ _ => (pg_name (i := 1) sc_rows_of_notation.nd rfl (Or.inl rfl) (.inr (by rfl)))) (fun _ _ _ _ _ => pts_nil) (fun _ _ _ _ _ => (pe_split (pv 1) pe_str))))), ?_⟩
  exact go_rows rfl ht (fun x => rfl) (fun x => rfl) q
def spParse (K : Frag) : Sp := fun vs H Q E => ∃ t : Str, vs = [.str t] ∧ t.length ≤ 20000 ∧
  (∀ fs ks ru, rdB (rowsT t) = .inr (fs, ks, ru) → ∀ b H', Ex H H' → BookAt K H' b fs (nest 7 0 ks) ru → Q (.ref b) H') ∧ (∀ k e : Nat, rdB (rowsT t) = .inl (k, e) → Rz K H k e E)
theorem sc_parse_book : FnScope ["text"] ["text"] (defScope sParse) := ⟨rfl, rfl, rfl, by decide +kernel, rfl, by decide +kernel, by decide +kernel⟩
theorem ok_parse_book (T : TX P K mg) : OkF P w K mg base (L2.CX P w) (14 + 1) (ga K "parse_book") ["text"] (spParse K) := by
  refine OkF.mkX T.d_parse_book sc_parse_book (fun _ _ _ _ _ _ us hl => match us, hl with | [_], _ => rfl) (fun vs H Q E h => ?_) (fun cdv A outs s H vs Q E hr h => ?_)
  · obtain ⟨_, rfl, _⟩ := h; rfl
  obtain ⟨t, rfl, ht, q1, q2⟩ := h
  refine ⟨_, (pss_one (ps_ret (pe_c (ok_book_of T) hr (by omega) T.g_book_of (passes_call (takes_of rfl rfl rfl rfl) (fun _ _ _ _ h => h)) (pa_cons (pe_c (ok_rows_of_notation T) hr (by omega) T.g_rows_of_notation (E := E0) passN (pa_cons (pv 0) pa_nil)) pa_nil)))), ?_⟩
  refine op_ret (op_k (op_cons (go_k (ea_cons (ev_var rfl) ea_nil) fun H1 e1 => ?_)))
  refine ⟨t, rfl, ht, fun p H2 xs hp e2 h2 hA => ?_⟩
  have e12 := e1.trans e2
  refine ⟨p, xs, rowsT t, rfl, h2, hA, rowsT_ne t, by rw [hA.1]; have := rowsT_len (t := t); omega, fun fs ks ru h b H' e' hB => q1 fs ks ru h b H' (e12.trans e') hB, fun k e h => (q2 k e h).mono e12⟩
end
end K56
set_option Elab.async false
set_option linter.all false
set_option maxRecDepth 100000
set_option maxHeartbeats 4000000
/-! K56, part D11: the law's own readers. -/
namespace K56
open PySem PySem.W PyProof.Rows L2 Evl He
theorem go_if {t : TT} {ta tb : TE} {σ : L2.St} {H : Hp} {b : Bool} {Q : VK} (h : EvT t σ H b) (h1 : b = true → ∀ H1, Ex H H1 → ta σ H1 Q) (h2 : b = false → ∀ H1, Ex H H1 → tb σ H1 Q) : tIf t ta tb σ H Q := h H (Ex.refl H) _ fun H1 e => by
  cases b with
  | true =>
    show ta σ H1 Q
    exact h1 rfl H1 e
  | false =>
    show tb σ H1 Q
    exact h2 rfl H1 e
section
variable {P : Program} {w : World} {K : Frag} {mg : Str → Option Value} {base : Heap}
theorem sc_l_named : FnScope ["_law_word", "_law_letters", "_law_sign"] ["_law_word"] (defScope sNamed) := ⟨rfl, rfl, rfl, by decide +kernel, rfl, by decide +kernel, by decide +kernel⟩
theorem ok_l_named (T : TX P K mg) : OkF P w K mg base CX0 (0 + 1) (ga K "_law_named") ["_law_word"] spFree := by
  refine OkF.mk0 T.d_l_named sc_l_named (fun _ _ _ _ _ _ us hl => match us, hl with | [_], _ => rfl) (fun vs H Q E h => ?_) (fun cdv A outs s H vs Q E hr h => ?_)
  · obtain ⟨_, rfl, _⟩ := h; rfl
  obtain ⟨z, rfl, hz, q⟩ := h
  refine ⟨_, (pss_cons (ps_set (i := 1) sc_l_named.nd rfl (Or.inl rfl) (pe_cmpR (op_eqE (hu_of hr)) (pe_lc (own := [("_law_sign", 2)]) (g := (gName 2))  rfl sc_l_named.nd (pi_str (pv 0)) (blkOk_by (own := [("_law_sign", 2)]) (N := ["_law_word", "_law_letters", "_law_sign"]) (sc := defScope sNamed) (by decide +kernel)) (fun _ _ _ _ _ => (pg_name (i := 2) sc_l_named.nd rfl (Or.inl rfl) (.inr (by rfl)))) (fun _ _ _ _ _ => pts_one (pt_cmpR op_notIn_sign (pv 2) pe_str rfl)) (fun _ _ _ _ _ => (pv 2))) (pe_lst pa_nil) (nomark _)))
      (pss_one (ps_ret (pe_and (pv 1) (pe_and (pe_chain op_le op_le pe_int (pe_callB call_len_str (by rfl) T.b_len PySem.boot_len (pa_cons (pv 0) pa_nil)) pe_int) (pe_one (pe_cmpR op_notIn_seq (pv 0) (pe_tup (pa_cons pe_str (pa_cons pe_str (pa_cons pe_str (pa_cons pe_str (pa_cons pe_str pa_nil)))))) rfl))))))), ?_⟩
  refine q_asg (v := .bl (lets z)) (ev_is (ev_eqNE (el_lcS (fun i => !decide ((z.cps[i]?).getD 0 ∈ LET.cps.toList)) (fun i => .str ⟨#[(z.cps[i]?).getD 0]⟩) (ev_var rfl) (by have : z.cps.size = z.length := rfl; omega) (fun x => rfl) (fun i c H2 e2 hc => ?_) (fun i c H2 e2 hc hf => ?_)) el_nil) (by rw [lets_given])) fun H1 e1 => ?_
  · rw [hc]
    exact et_test (ev_op (ev_var rfl) ev_c rv_niC)
  · rw [hc]
    exact ev_var rfl
  refine s_ret (ev_is (ev_andV (ev_var rfl) fun _ => ev_andV (ev_chain ev_c (ev_cb (ea_cons (ev_var rfl) ea_nil) (rc_lenS hz)) ev_c rv_I0 rv_I0) fun _ => ev_niU (xs := RES.map V.str) (ev_var rfl) (eu_tup (ea_cons ev_c (ea_cons ev_c (ea_cons ev_c (ea_cons ev_c (ea_cons ev_c ea_nil))))) (by show 5 ≤ 100000; decide)) rfl (flat_strs RES)) ?_) fun H2 e2 => q H2 (e1.trans e2)
  rw [inV_strs]
  congr 1
  unfold isFree isName
  rw [show decide ((1 : Int) ≤ (z.length : Nat)) = decide (1 ≤ z.length) from by rw [Bool.eq_iff_iff, decide_eq_true_eq, decide_eq_true_eq]; omega, show decide (((z.length : Nat) : Int) ≤ 8) = decide (z.length ≤ 8) from by rw [Bool.eq_iff_iff, decide_eq_true_eq, decide_eq_true_eq]; omega]
  cases lets z <;> cases decide (1 ≤ z.length) <;> cases decide (z.length ≤ 8) <;> rfl
theorem ev_named {te : TE} {z : Str} {σ : L2.St} {H : Hp} {E' : XK} (h : Ev te σ H (.str z)) (hz : z.length ≤ 30000) : Ev (tK spFree E' (tCons te tNil)) σ H (.bl (isFree z)) := ev_free h hz
def spLFacts : Sp := fun vs H Q _ => ∃ (wa : Addr) (ws : List Str), vs = [.ref wa] ∧ SL H wa ws ∧ 1 ≤ ws.length ∧ ws.length ≤ 30000 ∧ (∀ z ∈ ws, z.length ≤ 30000) ∧
  (∀ fs, rdFacts ws = .inr fs → ∀ a H', Ex H H' → ST H' a fs → Q (.ref a) H') ∧ (∀ k : Nat, rdFacts ws = .inl k → RetV (.int k) H Q)
theorem sc_l_read_facts : FnScope ["_law_words_here", "_law_k"] ["_law_words_here"] (defScope sLFacts) := ⟨rfl, rfl, rfl, by decide +kernel, rfl, by decide +kernel, by decide +kernel⟩
theorem ok_l_read_facts (T : TX P K mg) : OkF P w K mg base CX0 (1 + 1) (ga K "_law_read_facts") ["_law_words_here"] spLFacts := by
  refine OkF.mk0 T.d_l_read_facts sc_l_read_facts (fun _ _ _ _ _ _ us hl => match us, hl with | [_], _ => rfl) (fun vs H Q E h => ?_) (fun cdv A outs s H vs Q E hr h => ?_)
  · obtain ⟨_, _, rfl, _⟩ := h; rfl
  obtain ⟨wa, ws, rfl, hW, h1, hl, hs, q1, q2⟩ := h
  refine ⟨_, (pss_cons (ps_if (pt_cmpR op_ne (pe_ix ix_list (pv 0) pe_int (fun _ _ => rfl)) pe_str (nomark _)) (pss_one (ps_ret pe_int)) pss_nil)
      (pss_cons (ps_for PassesOwn.never rfl (pi_range2 rfl T.b_range (pa_cons pe_int (pa_cons (pe_callB call_len_seq (by rfl) T.b_len PySem.boot_len (pa_cons (pv 0) pa_nil)) pa_nil))) (pg_name (i := 1) sc_l_read_facts.nd rfl (Or.inl rfl)) (pss_one (ps_if (pw_or (pt_not (pt_val (pe_c (ok_l_named T) hr (by omega) T.g_l_named (E := E0) passN (pa_cons (pe_ix ix_list (pv 0) (pv 1) (fun _ _ => rfl)) pa_nil)))) (pw_or (pw_and (pt_cmpR op_gt (pv 1) pe_int (nomark _)) (pw_and1 (pt_cmpR op_le_str (pe_ix ix_list (pv 0) (pv 1) (fun _ _ => rfl)) (pe_ix ix_list (pv 0) (pe_op op_sub (pv 1) pe_int) (fun _ _ => rfl)) (nomark _)))).pt (pw_or1 (pt_cmpR op_gt (pv 1) pe_int (nomark _))))).pt (pss_one (ps_ret (pv 1))) pss_nil)))
      (pss_one (ps_ret (pe_ifExp (pt_cmpR op_gt (pe_callB call_len_seq (by rfl) T.b_len PySem.boot_len (pa_cons (pv 0) pa_nil)) pe_int (nomark _)) (pe_callTy call_tuple_of (by rfl) T.b_tuple (by decide +kernel) (pa_cons (pe_slice sl_list (pv 0) (po_some pe_int) po_none) pa_nil)) pe_int))))), ?_⟩
  refine q_when (et_test (ev_op (ev_op (ev_var rfl) ev_c (rv_ixL (sq_of hW) (at_eq (at_str (p := 0) h1) rfl))) ev_c rv_nes)) (fun hb H1 e1 => ?_) (fun hb H1 e1 => ?_)
  · exact s_ret ev_c fun H2 e2 => q2 0 (rdFacts_no (by simpa using hb)) H2 (e1.trans e2)
  have h0 : wd ws 0 = "facts" := by simpa using hb
  refine q_forR2 (lo := 1) (n := (ws.length : Nat)) (ea_cons ev_c (ea_cons (ev_is (ev_len (ev_var rfl) (sq_of (e1 _ _ hW))) (by rw [List.length_map])) ea_nil)) (by omega) (fun i σ' H' => (∃ x1, σ' = [some (.ref wa), x1]) ∧ Ex H H' ∧ ∀ k, 1 ≤ k → k < 1 + i → factBad ws k = false)
    (fun H2 e2 => ⟨⟨_, rfl⟩, e1.trans e2, fun k a b => absurd a (by omega)⟩) (fun i σ' H' hi p => ?_) (fun σ' H' p => ?_)
  · obtain ⟨⟨x1, rfl⟩, a1, a2⟩ := p
    have hil : 1 + i < ws.length := by omega
    have e1i : ((1 : Int) + (i : Int)) = ((1 + i : Nat) : Int) := by omega
    rw [e1i]
    refine s_when (b := factBad ws (1 + i)) (et_is (et_or (et_not (et_B (ev_named (ev_op (ev_var rfl) (ev_var rfl) (rv_ixL (sq_of (a1 _ _ hW)) (at_str hil))) (wd_small hs)))) fun _ => et_or (et_and (et_test (ev_op (ev_var rfl) ev_c rv_I0)) fun hk => et_test (ev_op (ev_op (ev_var rfl) (ev_var rfl) (rv_ixL (sq_of (a1 _ _ hW)) (at_str hil))) (ev_op (ev_var rfl) (ev_op (ev_var rfl) ev_c rv_I0) (rv_ixL (sq_of (a1 _ _ hW)) (at_eq (at_str (p := i) (by omega)) (by omega)))) rv_le)) fun _ => et_test (ev_op (ev_var rfl) ev_c rv_I0)) ?_) (fun hb2 H2 e2 => ?_) (fun hb2 H2 e2 => ?_)
    · unfold factBad
      rw [show 1 + i - 1 = i by omega, show decide ((1 : Int) < ((1 + i : Nat) : Int)) = decide (1 < 1 + i) from by rw [Bool.eq_iff_iff, decide_eq_true_eq, decide_eq_true_eq]; omega, show decide ((60 : Int) < ((1 + i : Nat) : Int)) = decide (60 < 1 + i) from by rw [Bool.eq_iff_iff, decide_eq_true_eq, decide_eq_true_eq]; omega]
    · exact s_ret (ev_var rfl) fun H3 e3 => q2 (1 + i) (rdFacts_bad h0 (by omega) hil a2 hb2) H3 ((a1.trans e2).trans e3)
    · refine ⟨⟨_, rfl⟩, a1.trans e2, fun k b1 b2 => ?_⟩
      rcases Nat.lt_or_ge k (1 + i) with c | c
      · exact a2 k b1 c
      · rw [show k = 1 + i by omega]
        exact hb2
  · obtain ⟨⟨x1, rfl⟩, a1, a2⟩ := p
    refine op_ret ?_
    refine go_if (et_test (ev_op (ev_len (ev_var rfl) (sq_of (a1 _ _ hW))) ev_c rv_I0)) (fun hb2 H2 e2 => ?_) (fun hb2 H2 e2 => ?_)
    · have h2 : 1 < ws.length := by
        have := of_decide_eq_true hb2
        rw [List.length_map] at this
        omega
      refine go_sl (ev_var rfl) (eo_some ev_c) eo_none (sq_of (e2 _ _ (a1 _ _ hW))) fun p H3 hp e3 h3 => ?_
      refine ⟨p, _, rfl, .inl ⟨sq_of h3, fun t ht => ?_⟩⟩
      refine q1 (ws.drop 1) (rdFacts_ok h0 h2 fun k b1 b2 => a2 k b1 (by omega)) t _ (((a1.trans e2).trans e3).trans (Ex.new ht)) ?_
      show upd H3 t _ t = _
      rw [upd_same, cut_one, List.map_drop]
    · have h2 : ¬ 1 < ws.length := by
        have := of_decide_eq_false hb2
        rw [List.length_map] at this
        omega
      exact q2 1 (rdFacts_one h0 (by omega)) H2 (a1.trans e2)
def spLSide : Sp := fun vs H Q _ => ∃ (wa fa ba : Addr) (ws fs bs : List Str) (p most : Nat), vs = [.ref wa, .int p, .ref fa, .ref ba, .int most] ∧ SL H wa ws ∧ ST H fa fs ∧ ST H ba bs ∧ p ≤ ws.length ∧ ws.length ≤ 30000 ∧
  (∀ fd k, sideGo fs bs most (ws.drop p) [] p = .inr (fd, k) → ∀ t a H', Ex H H' → ST H' a fd → H' t = some (.tup [.ref a, .int (k : Nat)]) → Q (.ref t) H') ∧ (∀ k : Nat, sideGo fs bs most (ws.drop p) [] p = .inl k → RetV (.int k) H Q)
theorem sc_l_read_side : FnScope ["_law_words_here", "_law_at", "_law_facts_here", "_law_barred", "_law_most", "_law_found", "_law_late"] ["_law_words_here", "_law_at", "_law_facts_here", "_law_barred", "_law_most"] (defScope sLSide) := ⟨rfl, rfl, rfl, by decide +kernel, rfl, by decide +kernel, by decide +kernel⟩
theorem ok_l_read_side (T : TX P K mg) : OkF P w K mg base CX0 (0 + 1) (ga K "_law_read_side") ["_law_words_here", "_law_at", "_law_facts_here", "_law_barred", "_law_most"] spLSide := by
  refine OkF.mk0 T.d_l_read_side sc_l_read_side (fun _ _ _ _ _ _ us hl => match us, hl with | [_, _, _, _, _], _ => rfl) (fun vs H Q E h => ?_) (fun cdv A outs s H vs Q E hr h => ?_)
  · obtain ⟨_, _, _, _, _, _, _, _, rfl, _⟩ := h; rfl
  obtain ⟨wa, fa, ba, ws, fs, bs, p, most, rfl, hW, hF, hB, hp, hl, q1, q2⟩ := h
  refine ⟨_, (pss_cons (ps_set (i := 5) sc_l_read_side.nd rfl (Or.inl rfl) (pe_lst pa_nil))
      (pss_cons (ps_while PassesOwn.never (pw_and (pt_cmpR op_lt (pv 1) (pe_callB call_len_seq (by rfl) T.b_len PySem.boot_len (pa_cons (pv 0) pa_nil)) (nomark _)) (pw_and1 (pw_or (pt_cmpR op_ne (pe_ix ix_list (pv 0) (pv 1) (fun _ _ => rfl)) pe_str (nomark _)) (pw_or1 (pt_cmpR (op_eqE (hu_of hr)) (pv 5) (pe_lst pa_nil) (nomark _)))).pt)).pt (pss_cons (ps_set (i := 6) sc_l_read_side.nd rfl (Or.inl rfl) (pe_and (pe_cmpR (op_neE (hu_of hr)) (pv 5) (pe_lst pa_nil) (nomark _)) (pe_one (pe_cmpR op_le_str (pe_ix ix_list (pv 0) (pv 1) (fun _ _ => rfl)) (pe_ix ix_list (pv 5) (pe_un un_neg pe_int) (fun _ _ => rfl)) (nomark _)))))
      (pss_cons (ps_if (pw_or (pt_cmpR op_notIn_seq (pe_ix ix_list (pv 0) (pv 1) (fun _ _ => rfl)) (pv 2) rfl) (pw_or (pt_val (pv 6)) (pw_or (pt_cmpR op_in_seq (pe_ix ix_list (pv 0) (pv 1) (fun _ _ => rfl)) (pv 3) rfl) (pw_or1 (pt_cmpR op_eq (pe_callB call_len_seq (by rfl) T.b_len PySem.boot_len (pa_cons (pv 5) pa_nil)) (pv 4) (nomark _)))))).pt (pss_one (ps_ret (pv 1))) pss_nil)
      (pss_cons (ps_expr (pe_bm PySem.F.plainAttrs_list PySem.F.slot_list_append PySem.F.type_list_append mt_append (pv 5) (pa_cons (pe_ix ix_list (pv 0) (pv 1) (fun _ _ => rfl)) pa_nil)))
      (pss_one (ps_set (i := 1) sc_l_read_side.nd rfl (Or.inl rfl) (pe_op op_add (pv 1) pe_int)))))))
      (pss_one (ps_ret (pe_ifExp (pt_cmpR (op_neE (hu_of hr)) (pv 5) (pe_lst pa_nil) (nomark _)) (pe_tup (pa_cons (pe_callTy call_tuple_of (by rfl) T.b_tuple (by decide +kernel) (pa_cons (pv 5) pa_nil)) (pa_cons (pv 1) pa_nil))) (pv 1)))))), ?_⟩
  refine q_asgL el_nil fun l H0 hl0 e0 hL0 => ?_
  refine q_while (fun m σ' H' => ∃ fd x6, m = ws.length - (p + fd.length) ∧ σ' = [some (.ref wa), some (.int ((p + fd.length : Nat) : Int)), some (.ref fa), some (.ref ba), some (.int most), some (.ref l), x6] ∧ Ex H H' ∧ SL H' l fd ∧ p + fd.length ≤ ws.length ∧ fd.length ≤ most ∧
    sideGo fs bs most (ws.drop p) [] p = sideGo fs bs most (ws.drop (p + fd.length)) fd (p + fd.length))
    (ws.length - (p + 0)) ⟨[], none, rfl, rfl, e0, hL0, hp, Nat.zero_le _, rfl⟩ ?_
  rintro m σ' H' ⟨fd, x6, rfl, rfl, a1, hL1, hpl, hfm, hg⟩
  rw [hg] at q1 q2
  have hat : ∀ {H2 : Hp}, Ex H' H2 → p + fd.length < ws.length → RV (rIxL K) (.ref wa) (.int ((p + fd.length : Nat) : Int)) H2 (.str (wd ws (p + fd.length))) := fun e h => rv_ixL (sq_of ((a1.trans e) _ _ hW)) (at_str h)
  refine ⟨_, et_and (et_test (ev_op (ev_var rfl) (ev_len (ev_var rfl) (sq_of (a1 _ _ hW))) rv_I0)) fun hlt => et_or (et_test (ev_op (ev_op (ev_var rfl) (ev_var rfl) (hat (Ex.refl H') (by have := of_decide_eq_true hlt; rw [List.length_map] at this; omega))) ev_c rv_nes)) fun _ => et_test (ev_eqE (ev_var rfl) (sq_of hL1) el_nil), fun hb H3 e3 => ?_, fun hb H3 e3 => ?_⟩
  · rw [Bool.and_eq_true, List.length_map, map_nil_dec] at hb
    have hk : p + fd.length < ws.length := by
      have := of_decide_eq_true hb.1
      omega
    have hcont : ¬ (wd ws (p + fd.length) = "not" ∧ fd ≠ []) := by
      rintro ⟨h1, h2⟩
      have := hb.2
      rw [h1, decide_eq_false h2] at this
      simp at this
    refine ⟨fun σ2 H2 => ∃ fd' x6, fd'.length = fd.length + 1 ∧ σ2 = [some (.ref wa), some (.int ((p + fd'.length : Nat) : Int)), some (.ref fa), some (.ref ba), some (.int most), some (.ref l), x6] ∧ Ex H H2 ∧ SL H2 l fd' ∧ p + fd'.length ≤ ws.length ∧ fd'.length ≤ most ∧
      sideGo fs bs most (ws.drop p) [] p = sideGo fs bs most (ws.drop (p + fd'.length)) fd' (p + fd'.length), ?_, ?_⟩
    · rintro σ2 H2 ⟨fd', x6, b1, b2, b3, b4, b5, b6, b7⟩
      exact ⟨_, by omega, fd', x6, rfl, b2, b3, b4, b5, b6, b7⟩
    have hL3 : SL H3 l fd := e3 _ _ hL1
    refine q_asg (v := .bl (!decide (fd = []) && !(ltS (lastS fd) (wd ws (p + fd.length))))) (ev_andV (ev_is (ev_neE (ev_var rfl) (sq_of hL3) el_nil) (by rw [map_nil_dec])) fun hne => ev_op (ev_op (ev_var rfl) (ev_var rfl) (hat e3 hk)) (ev_op (ev_var rfl) (ev_un ev_c ru_neg) (rv_ixL (sq_of hL3) (at_lastS (by simpa using hne)))) rv_le) fun H4 e4 => ?_
    have e34 := e3.trans e4
    have e04 := a1.trans e34
    have hL4 : SL H4 l fd := e34 _ _ hL1
    refine q_when (b := !(sideOk fs bs most fd (wd ws (p + fd.length)))) (et_is (et_or (et_test (ev_op (ev_op (ev_var rfl) (ev_var rfl) (hat e34 hk)) (ev_var rfl) (rv_niS (.inr (st_of (e04 _ _ hF)))))) fun _ => et_or (et_B (ev_var rfl)) fun _ => et_or (et_test (ev_op (ev_op (ev_var rfl) (ev_var rfl) (hat e34 hk)) (ev_var rfl) (rv_inS (.inr (st_of (e04 _ _ hB)))))) fun _ => et_test (ev_op (ev_len (ev_var rfl) (sq_of hL4)) (ev_var rfl) rv_eqi)) ?_) (fun hb5 H5 e5 => ?_) (fun hb5 H5 e5 => ?_)
    · unfold sideOk
      rw [List.length_map, show decide (((fd.length : Nat) : Int) = (most : Int)) = !decide (fd.length < most) from by
        rcases Nat.lt_or_ge fd.length most with c | c
        · rw [decide_eq_true c, decide_eq_false (show ¬ ((fd.length : Nat) : Int) = (most : Int) by omega)]
          rfl
        · rw [decide_eq_true (show ((fd.length : Nat) : Int) = (most : Int) by omega), decide_eq_false (show ¬ fd.length < most by omega)]
          rfl]
      cases decide (wd ws (p + fd.length) ∈ fs) <;> cases decide (fd = []) <;> cases ltS (lastS fd) (wd ws (p + fd.length)) <;> cases decide (wd ws (p + fd.length) ∈ bs) <;> cases decide (fd.length < most) <;> rfl
    · refine s_ret (ev_var rfl) fun H6 e6 => q2 (p + fd.length) ?_ H6 ((e04.trans e5).trans e6)
      rw [drop_wd hk]
      show (if _ then _ else if _ then _ else _) = _
      rw [if_neg hcont, if_neg (by simpa using hb5)]
    · have hok : sideOk fs bs most fd (wd ws (p + fd.length)) = true := by simpa using hb5
      have hL5 : H5 l = some (.lst (fd.map V.str)) := e5 _ _ hL4
      refine q_app hL5 (ev_var rfl) (ev_op (ev_var rfl) (ev_var rfl) (hat (e34.trans e5) hk)) (by rw [List.length_map]; omega) fun H6 e6 => ?_
      have e06 : Ex H (upd H6 l (.lst (fd.map V.str ++ [V.str (wd ws (p + fd.length))]))) := ((e04.trans e5).trans e6).mut hl0
      refine s_asg (ev_op (ev_var rfl) ev_c rv_I0) fun H7 e7 => ?_
      refine ⟨fd ++ [wd ws (p + fd.length)], some (.bl (!decide (fd = []) && !(ltS (lastS fd) (wd ws (p + fd.length))))), by rw [List.length_append]; rfl, ?_, e06.trans e7, e7 _ _ ?_, by rw [List.length_append, List.length_singleton]; omega, ?_, ?_⟩
      · rw [List.length_append, List.length_singleton, show ((p + (fd.length + 1) : Nat) : Int) = ((p + fd.length : Nat) : Int) + 1 by omega]
        rfl
      · show upd H6 l _ l = _
        rw [upd_same, List.map_append]
        rfl
      · rw [List.length_append, List.length_singleton]
        have := (sideOk_of hok).2.2.1
        omega
      · rw [hg, drop_wd hk, List.length_append]
        show (if _ then _ else if _ then _ else _) = _
        rw [if_neg hcont, if_pos hok]
        rfl
  · rw [List.length_map, map_nil_dec] at hb
    have hL3 : SL H3 l fd := e3 _ _ hL1
    have stop : p + fd.length < ws.length → wd ws (p + fd.length) = "not" ∧ fd ≠ [] := fun h => by
      rw [decide_eq_true (show ((p + fd.length : Nat) : Int) < ((ws.length : Nat) : Int) by omega)] at hb
      rw [Bool.true_and, Bool.or_eq_false_iff] at hb
      exact ⟨by simpa using hb.1, of_decide_eq_false hb.2⟩
    refine op_ret ?_
    refine go_if (et_test (ev_neE (ev_var rfl) (sq_of hL3) el_nil)) (fun hb4 H4 e4 => ?_) (fun hb4 H4 e4 => ?_)
    · have hne : fd ≠ [] := by
        rw [map_nil_dec] at hb4
        simpa using hb4
      refine ⟨_, rfl, l, _, rfl, .inl ⟨sq_of (e4 _ _ hL3), fun a ha => ⟨_, rfl, by show 2 ≤ sizeLine; decide, fun t ht => ?_⟩⟩⟩
      refine q1 fd (p + fd.length) ?_ t a _ (((a1.trans (e3.trans e4)).trans (Ex.new ha)).trans (Ex.new ht)) (Ex.new ht _ _ upd_same) upd_same
      rcases Nat.lt_or_ge (p + fd.length) ws.length with h | h
      · rw [drop_wd h]
        show (if _ then _ else _) = _
        rw [if_pos (stop h)]
      · rw [List.drop_eq_nil_of_le h]
        show (if _ then _ else _) = _
        rw [if_neg hne]
    · have hn : fd = [] := by
        rw [map_nil_dec] at hb4
        simpa using hb4
      refine ⟨_, rfl, ?_⟩
      refine q2 (p + fd.length) ?_ H4 ((a1.trans e3).trans e4)
      rcases Nat.lt_or_ge (p + fd.length) ws.length with h | h
      · exact absurd hn (stop h).2
      · rw [List.drop_eq_nil_of_le h]
        show (if _ then _ else _) = _
        rw [if_pos hn]
end
end K56
set_option Elab.async false
set_option linter.all false
set_option maxRecDepth 100000
set_option maxHeartbeats 4000000
/-! K56, part D12: the law's own reader of a rule. -/
namespace K56
open PySem PySem.W PyProof.Rows L2 Evl He
def lw (ws : List Str) (p : Nat) : Str := if p < ws.length then wd ws p else " "
def chk (ns : List Str) (w : Str) : Nat → Bool
  | 0 => !isFree w || decide (w ∈ ns)
  | 1 => !decide (w = "is")
  | _ => !isFree w
theorem chk_lw {ns ws : List Str} {p i : Nat} : chk ns (lw ws p) i = chk ns (wd ws p) i := by
  unfold lw
  split
  · rfl
  · rename_i h
    rw [wd_out (Nat.le_of_not_lt h)]
    have h1 : isFree " " = false := by decide +kernel
    have h2 : isFree "" = false := free_nil
    match i with
    | 0 =>
      show (!isFree " " || decide ((" " : Str) ∈ ns)) = (!isFree "" || decide (("" : Str) ∈ ns))
      rw [h1, h2]
      rfl
    | 1 =>
      show (!decide ((" " : Str) = "is")) = (!decide (("" : Str) = "is"))
      decide +kernel
    | i + 2 =>
      show (!isFree " ") = (!isFree "")
      rw [h1, h2]
theorem rdRule_no {fs ns ws : List Str} {D j : Nat} (h : ¬ D < marks ws) (hj : j < 3) (hp : ∀ i, i < j → chk ns (wd ws (marks ws + i)) i = false) (hf : chk ns (wd ws (marks ws + j)) j = true) : rdRule fs ns D ws = .inl (marks ws + j) := by
  have c0 : 0 < j → (isFree (wd ws (marks ws)) && !decide (wd ws (marks ws) ∈ ns)) = true := fun h => by
    have := hp 0 h
    rw [Nat.add_zero] at this
    replace this : (!isFree (wd ws (marks ws)) || decide (wd ws (marks ws) ∈ ns)) = false := this
    rw [Bool.or_eq_false_iff] at this
    rw [show isFree (wd ws (marks ws)) = true by simpa using this.1, this.2]
    rfl
  have c1 : 1 < j → wd ws (marks ws + 1) = "is" := fun h => by
    have : (!decide (wd ws (marks ws + 1) = "is")) = false := hp 1 h
    simpa using this
  unfold rdRule
  rw [if_neg h]
  match j, hj with
  | 0, _ =>
    rw [Nat.add_zero] at hf
    replace hf : (!isFree (wd ws (marks ws)) || decide (wd ws (marks ws) ∈ ns)) = true := hf
    refine (if_pos ?_).trans rfl
    cases h1 : isFree (wd ws (marks ws)) with
    | false => rfl
    | true =>
      rw [h1] at hf
      rw [show decide (wd ws (marks ws) ∈ ns) = true by simpa using hf]
      rfl
  | 1, _ =>
    rw [if_neg (by rw [c0 (by omega)]; decide), if_pos]
    have : (!decide (wd ws (marks ws + 1) = "is")) = true := hf
    simpa using this
  | 2, _ =>
    rw [if_neg (by rw [c0 (by omega)]; decide), if_neg (fun h => h (c1 (by omega))), if_pos]
    have : (!isFree (wd ws (marks ws + 2))) = true := hf
    simpa using this
theorem rdRule_go {fs ns ws : List Str} {D : Nat} (h : ¬ D < marks ws) (hp : ∀ i, i < 3 → chk ns (wd ws (marks ws + i)) i = false) : rdRule fs ns D ws = (match rdCond fs ws (marks ws + 3) with
    | .inl e => .inl e
    | .inr (h, f) => .inr ⟨marks ws, wd ws (marks ws), h, f, wd ws (marks ws + 2)⟩) := by
  have c0 : (isFree (wd ws (marks ws)) && !decide (wd ws (marks ws) ∈ ns)) = true := by
    have := hp 0 (by omega)
    rw [Nat.add_zero] at this
    replace this : (!isFree (wd ws (marks ws)) || decide (wd ws (marks ws) ∈ ns)) = false := this
    rw [Bool.or_eq_false_iff] at this
    rw [show isFree (wd ws (marks ws)) = true by simpa using this.1, this.2]
    rfl
  have c1 : wd ws (marks ws + 1) = "is" := by
    have : (!decide (wd ws (marks ws + 1) = "is")) = false := hp 1 (by omega)
    simpa using this
  have c2 : isFree (wd ws (marks ws + 2)) = true := by
    have : (!isFree (wd ws (marks ws + 2))) = false := hp 2 (by omega)
    simpa using this
  unfold rdRule
  rw [if_neg h, if_neg (by rw [c0]; decide), if_neg (fun h => h c1), if_neg (by rw [c2]; decide)]
  all_goals rfl
/-- the two sides, one after the other: how far, what they hold -/
def stage (fs ws : List Str) (m : Nat) : Nat → List Str → List Str → Nat → Prop
  | 0, h, f, k => h = [] ∧ f = [] ∧ k = m
  | 1, h, f, k => f = [] ∧ rdIf fs [] 8 "if" ws m = .inr (h, k)
  | _, h, f, k => ∃ k1, rdIf fs [] 8 "if" ws m = .inr (h, k1) ∧ rdIf fs h (8 - h.length) "not" ws k1 = .inr (f, k)
def keyS : Nat → Str
  | 0 => "if"
  | _ => "not"
theorem stage_err {fs ws h f : List Str} {m i k e : Nat} (hi : i < 2) (S : stage fs ws m i h f k) (g : rdIf fs h (8 - h.length) (keyS i) ws k = .inl e) : rdCond fs ws m = .inl e := by
  match i, hi with
  | 0, _ =>
    obtain ⟨rfl, rfl, rfl⟩ := S
    unfold rdCond
    rw [show rdIf fs [] 8 "if" ws k = .inl e from g]
  | 1, _ =>
    obtain ⟨rfl, S⟩ := S
    unfold rdCond
    rw [S]
    show (match rdIf fs h (8 - h.length) "not" ws k with
      | .inl e => _
      | .inr (f, k2) => _) = _
    rw [show rdIf fs h (8 - h.length) "not" ws k = .inl e from g]
theorem stage_next {fs ws h f fd : List Str} {m i k k' : Nat} (hi : i < 2) (S : stage fs ws m i h f k) (g : rdIf fs h (8 - h.length) (keyS i) ws k = .inr (fd, k')) : stage fs ws m (i + 1) (if i = 0 then fd else h) (if i = 0 then f else fd) k' := by
  match i, hi with
  | 0, _ =>
    obtain ⟨rfl, rfl, rfl⟩ := S
    exact ⟨rfl, g⟩
  | 1, _ =>
    obtain ⟨rfl, S⟩ := S
    exact ⟨k, S, g⟩
theorem stage_end {fs ws h f : List Str} {m k : Nat} (S : stage fs ws m 2 h f k) : rdCond fs ws m = if k = ws.length then .inr (h, f) else .inl k := by
  obtain ⟨k1, h1, h2⟩ := S
  unfold rdCond
  rw [h1]
  show (match rdIf fs h (8 - h.length) "not" ws k1 with
    | .inl e => _
    | .inr (f, k2) => _) = _
  rw [h2]
theorem stage_len {fs ws h f : List Str} {m i k : Nat} (hm : m ≤ ws.length) (hi : i < 2) (S : stage fs ws m i h f k) : h.length ≤ 8 := by
  match i, hi with
  | 0, _ =>
    obtain ⟨rfl, _⟩ := S
    exact Nat.zero_le _
  | 1, _ => exact (rdIf_ok hm S.2).1.len
section
variable {P : Program} {w : World} {K : Frag} {mg : Str → Option Value} {base : Heap}
def LKAt (H : Hp) (v : V) (k : KR) : Prop := ∃ t h f, v = .ref t ∧ H t = some (.tup [.int k.dp, .str k.nm, .ref h, .ref f, .str k.ru]) ∧ ST H h k.ho ∧ ST H f k.fa
theorem LKAt.mono {H H' : Hp} {v : V} {k : KR} (h : LKAt H v k) (e : Ex H H') : LKAt H' v k := by
  obtain ⟨t, a, b, h1, h2, h3, h4⟩ := h
  exact ⟨t, a, b, h1, e _ _ h2, e _ _ h3, e _ _ h4⟩
def spLRule : Sp := fun vs H Q _ => ∃ (wa fa na : Addr) (ws fs ns : List Str) (L : Nat), vs = [.ref wa, .ref fa, .ref na, .int ((L : Int) - 1)] ∧ SL H wa ws ∧ ST H fa fs ∧ SL H na ns ∧ ws.length ≤ 30000 ∧ (∀ z ∈ ws, z.length ≤ 30000) ∧
  (∀ e : Nat, rdRule fs ns (min 5 L) ws = .inl e → RetV (.int e) H Q) ∧ (∀ k, rdRule fs ns (min 5 L) ws = .inr k → ∀ v H', Ex H H' → LKAt H' v k → Q v H')
theorem sc_l_read_rule : FnScope ["_law_words_here", "_law_facts_here", "_law_names", "_law_above", "_law_deep", "_law_at", "_law_k", "_law_word", "_law_sides_here", "_law_found"] ["_law_words_here", "_law_facts_here", "_law_names", "_law_above"] (defScope sLRule) := ⟨rfl, rfl, rfl, by decide +kernel, rfl, by decide +kernel, by decide +kernel⟩
theorem ok_l_read_rule (T : TX P K mg) : OkF P w K mg base CX0 (1 + 1) (ga K "_law_read_rule") ["_law_words_here", "_law_facts_here", "_law_names", "_law_above"] spLRule := by
  refine OkF.mk0 T.d_l_read_rule sc_l_read_rule (fun _ _ _ _ _ _ us hl => match us, hl with | [_, _, _, _], _ => rfl) (fun vs H Q E h => ?_) (fun cdv A outs s H vs Q E hr h => ?_)
  · obtain ⟨_, _, _, _, _, _, _, rfl, _⟩ := h; rfl
  obtain ⟨wa, fa, na, ws, fs, ns, L, rfl, hW, hF, hN, hwl, hs, q1, q2⟩ := h
  refine ⟨_, (pss_cons (ps_set (i := 4) sc_l_read_rule.nd rfl (Or.inl rfl) pe_int)
      (pss_cons (ps_while PassesOwn.never (pw_and (pt_cmpR op_lt (pv 4) (pe_callB call_len_seq (by rfl) T.b_len PySem.boot_len (pa_cons (pv 0) pa_nil)) (nomark _)) (pw_and1 (pt_cmpR op_eq (pe_ix ix_list (pv 0) (pv 4) (fun _ _ => rfl)) pe_str (nomark _)))).pt (pss_cons (ps_if (pw_or (pt_cmpR op_gt (pv 4) (pv 3) (nomark _)) (pw_or1 (pt_cmpR op_eq (pv 4) pe_int (nomark _)))).pt (pss_one (ps_ret (pv 4))) pss_nil)
      (pss_one (ps_set (i := 4) sc_l_read_rule.nd rfl (Or.inl rfl) (pe_op op_add (pv 4) pe_int)))))
      (pss_cons (ps_set (i := 5) sc_l_read_rule.nd rfl (Or.inl rfl) (pv 4))
      (pss_cons (ps_for PassesOwn.never rfl (pi_range1 rfl T.b_range (pa_cons pe_int pa_nil)) (pg_name (i := 6) sc_l_read_rule.nd rfl (Or.inl rfl)) (pss_cons (ps_set (i := 7) sc_l_read_rule.nd rfl (Or.inl rfl) (pe_ifExp (pt_cmpR op_lt (pv 5) (pe_callB call_len_seq (by rfl) T.b_len PySem.boot_len (pa_cons (pv 0) pa_nil)) (nomark _)) (pe_ix ix_list (pv 0) (pv 5) (fun _ _ => rfl)) pe_str))
      (pss_cons (ps_if (pt_val (pe_ix ix_list (pe_lst (pa_cons (pe_or (pe_not (pe_c (ok_l_named T) hr (by omega) T.g_l_named (E := E0) passN (pa_cons (pv 7) pa_nil))) (pe_one (pe_cmpR op_in_seq (pv 7) (pv 2) rfl))) (pa_cons (pe_cmpR op_ne (pv 7) pe_str (nomark _)) (pa_cons (pe_not (pe_c (ok_l_named T) hr (by omega) T.g_l_named (E := E0) passN (pa_cons (pv 7) pa_nil))) pa_nil)))) (pv 6) (fun _ _ => rfl))) (pss_one (ps_ret (pv 5))) pss_nil)
      (pss_one (ps_set (i := 5) sc_l_read_rule.nd rfl (Or.inl rfl) (pe_op op_add (pv 5) pe_int))))))
      (pss_cons (ps_set (i := 8) sc_l_read_rule.nd rfl (Or.inl rfl) (pe_lst (pa_cons (pe_tup pa_nil) (pa_cons (pe_tup pa_nil) pa_nil))))
      (pss_cons (ps_for PassesOwn.never rfl (pi_range1 rfl T.b_range (pa_cons pe_int pa_nil)) (pg_name (i := 6) sc_l_read_rule.nd rfl (Or.inl rfl)) (pss_one (ps_if (pw_and (pt_cmpR op_lt (pv 5) (pe_callB call_len_seq (by rfl) T.b_len PySem.boot_len (pa_cons (pv 0) pa_nil)) (nomark _)) (pw_and1 (pt_cmpR op_eq (pe_ix ix_list (pv 0) (pv 5) (fun _ _ => rfl)) (pe_ix ix_list (pe_lst (pa_cons pe_str (pa_cons pe_str pa_nil))) (pv 6) (fun _ _ => rfl)) (nomark _)))).pt (pss_cons (ps_set (i := 9) sc_l_read_rule.nd rfl (Or.inl rfl) (pe_c (ok_l_read_side T) hr (by omega) T.g_l_read_side (E := E0) passN (pa_cons (pv 0) (pa_cons (pe_op op_add (pv 5) pe_int) (pa_cons (pv 1) (pa_cons (pe_ix ix_list (pv 8) pe_int (fun _ _ => rfl)) (pa_cons (pe_op op_sub pe_int (pe_callB call_len_seq (by rfl) T.b_len PySem.boot_len (pa_cons (pe_ix ix_list (pv 8) pe_int (fun _ _ => rfl)) pa_nil))) pa_nil)))))))
      (pss_cons (ps_if (pt_val (pe_callB call_isi (by rfl) T.b_isinstance (by decide +kernel) (pa_cons (pv 9) (pa_cons (pe_bltn (v := .ty "int") (by rfl) T.b_int (by decide +kernel) rfl) pa_nil)))) (pss_one (ps_ret (pv 9))) pss_nil)
      (pss_one (ps_asg (pv 9) (pg_tup rfl (pgs_cons (pg_sub (pv 8) (pv 6) set_list) (pgs_cons (pg_name (i := 5) sc_l_read_rule.nd rfl (Or.inl rfl)) pgs_nil))))))) pss_nil)))
      (pss_cons (ps_if (pt_cmpR op_lt (pv 5) (pe_callB call_len_seq (by rfl) T.b_len PySem.boot_len (pa_cons (pv 0) pa_nil)) (nomark _)) (pss_one (ps_ret (pv 5))) pss_nil)
      (pss_one (ps_ret (pe_tup (pa_cons (pv 4) (pa_cons (pe_ix ix_list (pv 0) (pv 4) (fun _ _ => rfl)) (pa_cons (pe_ix ix_list (pv 8) pe_int (fun _ _ => rfl)) (pa_cons (pe_ix ix_list (pv 8) pe_int (fun _ _ => rfl)) (pa_cons (pe_ix ix_list (pv 0) (pe_op op_add (pv 4) pe_int) (fun _ _ => rfl)) pa_nil))))))))))))))), ?_⟩
  have hat : ∀ {H2 : Hp} {p : Nat}, Ex H H2 → p < ws.length → RV (rIxL K) (.ref wa) (.int (p : Nat)) H2 (.str (wd ws p)) := fun e h => rv_ixL (sq_of (e _ _ hW)) (at_str h)
  refine q_asg (v := .int ((0 : Nat) : Int)) ev_c fun H0 e0 => ?_
  -- the markers
  refine q_while (fun m σ' H' => ∃ d : Nat, m = ws.length - d ∧ d ≤ min 5 L ∧ d ≤ ws.length ∧ σ' = [some (.ref wa), some (.ref fa), some (.ref na), some (.int ((L : Int) - 1)), some (.int d), none, none, none, none, none] ∧ Ex H H' ∧ marks ws = marks (ws.drop d) + d)
    (ws.length - 0) ⟨0, rfl, Nat.zero_le _, Nat.zero_le _, rfl, e0, rfl⟩ ?_
  rintro m σ' H' ⟨d, rfl, hd, hdl, rfl, a1, hm⟩
  refine ⟨_, et_and (et_test (ev_op (ev_var rfl) (ev_len (ev_var rfl) (sq_of (a1 _ _ hW))) rv_I0)) fun hlt => et_test (ev_op (ev_op (ev_var rfl) (ev_var rfl) (hat a1 (by have := of_decide_eq_true hlt; rw [List.length_map] at this; omega))) ev_c rv_eqs), fun hb H1 e1 => ?_, fun hb H1 e1 => ?_⟩
  · rw [Bool.and_eq_true, List.length_map] at hb
    have hdl : d < ws.length := by
      have := of_decide_eq_true hb.1
      omega
    have hw : wd ws d = ">" := of_decide_eq_true hb.2
    have hst := marks_step hw hdl
    refine ⟨fun σ2 H2 => d + 1 ≤ min 5 L ∧ σ2 = [some (.ref wa), some (.ref fa), some (.ref na), some (.int ((L : Int) - 1)), some (.int ((d + 1 : Nat) : Int)), none, none, none, none, none] ∧ Ex H H2, ?_, ?_⟩
    · rintro σ2 H2 ⟨b1, b2, b3⟩
      exact ⟨_, by omega, d + 1, rfl, b1, by omega, b2, b3, by omega⟩
    refine q_when (b := decide (d = min 5 L)) (et_is (et_or (et_test (ev_op (ev_var rfl) (ev_var rfl) rv_I0)) fun _ => et_test (ev_op (ev_var rfl) ev_c rv_eqi)) ?_) (fun hb2 H2 e2 => ?_) (fun hb2 H2 e2 => ?_)
    · rw [Bool.eq_iff_iff, Bool.or_eq_true, decide_eq_true_eq, decide_eq_true_eq, decide_eq_true_eq]
      omega
    · have h6 : d = min 5 L := of_decide_eq_true hb2
      refine s_ret (ev_var rfl) fun H3 e3 => q1 d ?_ H3 (((a1.trans e1).trans e2).trans e3)
      rw [rdRule_deep (by omega), ← h6]
    · have h6 : ¬ d = min 5 L := of_decide_eq_false hb2
      exact s_asg (ev_op (ev_var rfl) ev_c rv_I0) fun H3 e3 => ⟨by omega, rfl, ((a1.trans e1).trans e2).trans e3⟩
  have hstop : wd ws d ≠ ">" := fun z => by
    rw [Bool.and_eq_false_iff] at hb
    rcases hb with hb | hb
    · have := of_decide_eq_false hb
      rw [List.length_map] at this
      rw [wd_out (by omega)] at z
      exact absurd z (by decide)
    · exact of_decide_eq_false hb z
  have hmd : marks ws = d := by rw [hm, marks_stop hstop, Nat.zero_add]
  subst hmd
  have hnd : ¬ min 5 L < marks ws := by omega
  refine q_asg (ev_var rfl) fun H2 e2 => ?_
  have e02 := (a1.trans e1).trans e2
  -- three words
  refine q_forR1 (n := 3) (ea_cons ev_c ea_nil) (by omega) (fun i σ' H' => (∃ x6 x7, σ' = [some (.ref wa), some (.ref fa), some (.ref na), some (.int ((L : Int) - 1)), some (.int (marks ws : Nat)), some (.int ((marks ws + i : Nat) : Int)), x6, x7, none, none]) ∧ Ex H H' ∧ ∀ j, j < i → chk ns (wd ws (marks ws + j)) j = false)
    (fun H3 e3 => ⟨⟨_, _, rfl⟩, e02.trans e3, fun j h => absurd h (Nat.not_lt_zero _)⟩) (fun i σ' H3 hi p => ?_) (fun σ' H3 p => ?_)
  · obtain ⟨⟨x6, x7, rfl⟩, b1, b2⟩ := p
    refine q_asg (v := .str (lw ws (marks ws + i))) (ev_if (et_test (ev_op (ev_var rfl) (ev_len (ev_var rfl) (sq_of (b1 _ _ hW))) rv_I0)) (fun hb => ?_) (fun hb => ?_)) fun H4 e4 => ?_
    · have h := of_decide_eq_true hb
      rw [List.length_map] at h
      have h' : marks ws + i < ws.length := by omega
      unfold lw
      rw [if_pos h']
      exact ev_op (ev_var rfl) (ev_var rfl) (hat b1 h')
    · have h := of_decide_eq_false hb
      rw [List.length_map] at h
      unfold lw
      rw [if_neg (by omega)]
      exact ev_c
    have b4 := b1.trans e4
    have hsm : (lw ws (marks ws + i)).length ≤ 30000 := by
      unfold lw
      split
      · exact wd_small hs
      · show 1 ≤ 30000
        omega
    refine q_when (b := chk ns (wd ws (marks ws + i)) i) (et_B (ev_opL1 (xs := [.bl (!isFree (lw ws (marks ws + i)) || decide (lw ws (marks ws + i) ∈ ns)), .bl (!decide (lw ws (marks ws + i) = "is")), .bl (!isFree (lw ws (marks ws + i)))]) (el_lst (ea_cons (ev_orV (ev_notV (ev_named (ev_var rfl) hsm)) fun _ => ev_op (ev_var rfl) (ev_var rfl) (rv_inS (.inl (sq_of (b4 _ _ hN))))) (ea_cons (ev_op (ev_var rfl) ev_c rv_nes) (ea_cons (ev_notV (ev_named (ev_var rfl) hsm)) ea_nil))) (by show 3 ≤ 100000; decide)) (fun H5 e5 => ev_var rfl) (fun q H5 hq e5 => rv_ixL (sq_of hq) ?_))) (fun hb H5 e5 => ?_) (fun hb H5 e5 => ?_)
    · rw [← chk_lw]
      match i, hi with
      | 0, _ => exact atI_nat rfl
      | 1, _ => exact atI_nat rfl
      | 2, _ => exact atI_nat rfl
      | i + 3, h => exact absurd h (by omega)
    · exact s_ret (ev_var rfl) fun H6 e6 => q1 (marks ws + i) (rdRule_no hnd (by omega) b2 hb) H6 ((b4.trans e5).trans e6)
    · refine s_asg (ev_op (ev_var rfl) ev_c rv_I0) fun H6 e6 => ⟨⟨_, _, rfl⟩, (b4.trans e5).trans e6, fun j hj => ?_⟩
      rcases Nat.lt_or_ge j i with c | c
      · exact b2 j c
      · rw [show j = i by omega]
        exact hb
  obtain ⟨⟨x6, x7, rfl⟩, b1, b2⟩ := p
  have hrd := rdRule_go (fs := fs) (D := min 5 L) hnd b2
  have hlt2 : marks ws + 2 < ws.length := free_lt (by
    have : (!isFree (wd ws (marks ws + 2))) = false := b2 2 (by show 2 < 3; omega)
    simpa using this)
  -- the sides
  refine op_asg ⟨Nat.zero_le _, fun a0 ha0 => ⟨Nat.zero_le _, fun b0 hb0 => ⟨by show 2 ≤ sizeLine; decide, fun l hl => ?_⟩⟩⟩
  have hA : upd (upd (upd H3 a0 (.tup [])) b0 (.tup [])) l (.lst [.ref a0, .ref b0]) a0 = some (.tup []) := Ex.new hl _ _ (Ex.new hb0 _ _ upd_same)
  have hB : upd (upd (upd H3 a0 (.tup [])) b0 (.tup [])) l (.lst [.ref a0, .ref b0]) b0 = some (.tup []) := Ex.new hl _ _ upd_same
  have hL : upd (upd (upd H3 a0 (.tup [])) b0 (.tup [])) l (.lst [.ref a0, .ref b0]) l = some (.lst [.ref a0, .ref b0]) := upd_same
  have e3 : Ex H3 (upd (upd (upd H3 a0 (.tup [])) b0 (.tup [])) l (.lst [.ref a0, .ref b0])) := ((Ex.new ha0).trans (Ex.new hb0)).trans (Ex.new hl)
  have nl : H l = none := fresh_back ((b1.trans (Ex.new ha0)).trans (Ex.new hb0)) hl
  revert hA hB hL e3
  generalize upd (upd (upd H3 a0 (.tup [])) b0 (.tup [])) l (.lst [.ref a0, .ref b0]) = H4
  intro hA hB hL e3
  refine q_forR1 (n := 2) (ea_cons ev_c ea_nil) (by omega) (fun i σ' H' => ∃ a b h f k x6 x9, σ' = [some (.ref wa), some (.ref fa), some (.ref na), some (.int ((L : Int) - 1)), some (.int (marks ws : Nat)), some (.int (k : Nat)), x6, x7, some (.ref l), x9] ∧ Ex H H' ∧ H' l = some (.lst [.ref a, .ref b]) ∧ ST H' a h ∧ ST H' b f ∧ k ≤ ws.length ∧ stage fs ws (marks ws + 3) i h f k)
    (fun H5 e5 => ⟨a0, b0, [], [], marks ws + 3, _, _, rfl, (b1.trans e3).trans e5, e5 _ _ hL, e5 _ _ hA, e5 _ _ hB, by omega, rfl, rfl, rfl⟩) (fun i σ' H5 hi p => ?_) (fun σ' H5 p => ?_)
  · obtain ⟨a, b, h, f, k, x6, x9, rfl, c1, c2, c3, c4, c5, c6⟩ := p
    have hi2 : i < 2 := by omega
    have h8 := stage_len (by omega) hi2 c6
    refine s_when (b := decide (wd ws k = keyS i)) (et_is (et_and (et_test (ev_op (ev_var rfl) (ev_len (ev_var rfl) (sq_of (c1 _ _ hW))) rv_I0)) fun hlt => et_test (ev_op (ev_op (ev_var rfl) (ev_var rfl) (hat c1 (by have := of_decide_eq_true hlt; rw [List.length_map] at this; omega))) (ev_opL1 (xs := [.str "if", .str "not"]) (y := .int (i : Nat)) (z := .str (keyS i)) (el_lst (ea_cons ev_c (ea_cons ev_c ea_nil)) (by show 2 ≤ 100000; decide)) (fun H6 e6 => ev_var rfl) (fun q H6 hq e6 => rv_ixL (sq_of hq) ?_)) rv_eqs)) ?_) (fun hb H6 e6 => ?_) (fun hb H6 e6 => ?_)
    · match i, hi2 with
      | 0, _ => exact atI_nat rfl
      | 1, _ => exact atI_nat rfl
    · rw [List.length_map]
      rcases Nat.lt_or_ge k ws.length with c | c
      · rw [decide_eq_true (show ((k : Nat) : Int) < ((ws.length : Nat) : Int) by omega)]
        rfl
      · rw [decide_eq_false (show ¬ ((k : Nat) : Int) < ((ws.length : Nat) : Int) by omega), wd_out c]
        match i, hi2 with
        | 0, _ => decide +kernel
        | 1, _ => decide +kernel
    · have hw : wd ws k = keyS i := of_decide_eq_true hb
      have hkl : k < ws.length := by
        rcases Nat.lt_or_ge k ws.length with c | c
        · exact c
        · rw [wd_out c] at hw
          match i, hi2 with
          | 0, _ => exact absurd hw (by decide)
          | 1, _ => exact absurd hw (by decide)
      have c16 := c1.trans e6
      refine op_asg ?_
      have hix : RV (rIxL K) (.ref l) (.int 0) H6 (.ref a) := rv_ixL (sq_of (e6 _ _ c2)) (at_eq (atI_nat (j := 0) rfl) rfl)
      refine go_k (ea_cons (ev_var rfl) (ea_cons (ev_op (ev_var rfl) ev_c rv_I0) (ea_cons (ev_var rfl) (ea_cons (ev_op (ev_var rfl) ev_c hix) (ea_cons (ev_op ev_c (ev_lenT (ev_op (ev_var rfl) ev_c hix) (st_of (e6 _ _ c3))) rv_I0) ea_nil))))) fun H7 e7 => ?_
      have c17 := c16.trans e7
      have e67 := e6.trans e7
      have hg : rdIf fs h (8 - h.length) (keyS i) ws k = sideGo fs h (8 - h.length) (ws.drop (k + 1)) [] (k + 1) := rdIf_yes hw
      refine ⟨wa, fa, a, ws, fs, h, k + 1, 8 - h.length, ?_, c17 _ _ hW, c17 _ _ hF, e67 _ _ c3, by omega, hwl, fun fd k' hgo t a' H8 e8 hS hT => ?_, fun e hgo H8 e8 => ?_⟩
      · rw [List.length_map, show (8 : Int) - (h.length : Nat) = ((8 - h.length : Nat) : Int) by omega]
        rfl
      · have e68 := e67.trans e8
        have c18 := c17.trans e8
        refine q_when (b := false) (et_B (ev_cb (ea_cons (ev_var rfl) (ea_cons ev_c ea_nil)) (rc_isi (t := "tuple") (b := false) fun H9 e9 => .base (.tup (e9 _ _ hT))))) (fun hb => nomatch hb) (fun _ H9 e9 => ?_)
        refine s_asgG (ev_var rfl) fun H10 e10 => ?_
        have e810 := e9.trans e10
        refine ⟨t, _, rfl, st_of (e810 _ _ hT), rfl, _, _, rfl, ?_⟩
        have hL10 := (e68.trans e810) _ _ c2
        refine ⟨_, rfl, _, rfl, l, _, (i : Int), i, rfl, rfl, hL10, ixN_nat (by show i < 2; omega), ?_⟩
        refine ⟨_, _, rfl, rfl, ?_⟩
        have hok := rdIf_ok (by omega) (hg.trans hgo)
        have nx := stage_next hi2 c6 (hg.trans hgo)
        have u1 : ∀ {q : Addr} {xs : List V} {o : HO}, H10 q = some (.tup xs) → upd H10 l o q = some (.tup xs) := fun hq => ex_updL hL10 hq (fun _ z => nomatch z)
        match i, hi2, nx with
        | 0, _, nx => exact ⟨a', b, fd, f, k', _, _, rfl, (c18.trans e810).mut nl, upd_same, u1 (e810 _ _ hS), u1 ((e68.trans e810) _ _ c4), hok.2.2, nx⟩
        | 1, _, nx => exact ⟨a, a', h, fd, k', _, _, rfl, (c18.trans e810).mut nl, upd_same, u1 ((e68.trans e810) _ _ c3), u1 (e810 _ _ hS), hok.2.2, nx⟩
      · refine q_when (b := true) (et_B (ev_cb (ea_cons (ev_var rfl) (ea_cons ev_c ea_nil)) (rc_isi (t := "int") (b := true) fun H9 e9 => .base (.int _)))) (fun _ H9 e9 => ?_) (fun hb => nomatch hb)
        refine s_ret (ev_var rfl) fun H10 e10 => q1 e ?_ H10 (((c17.trans e8).trans e9).trans e10)
        rw [hrd, stage_err hi2 c6 (hg.trans hgo)]
    · have hw : wd ws k ≠ keyS i := of_decide_eq_false hb
      have nx := stage_next hi2 c6 (rdIf_no hw)
      match i, hi2, nx, c6 with
      | 0, _, nx, c6 =>
        obtain ⟨rfl, rfl, rfl⟩ := c6
        exact ⟨a, b, [], [], _, _, _, rfl, c1.trans e6, e6 _ _ c2, e6 _ _ c3, e6 _ _ c4, c5, nx⟩
      | 1, _, nx, c6 =>
        obtain ⟨rfl, c6⟩ := c6
        exact ⟨a, b, h, [], k, _, _, rfl, c1.trans e6, e6 _ _ c2, e6 _ _ c3, e6 _ _ c4, c5, nx⟩
  obtain ⟨a, b, h, f, k, x6', x9, rfl, c1, c2, c3, c4, c5, c6⟩ := p
  have hend := stage_end c6
  refine q_when (et_test (ev_op (ev_var rfl) (ev_len (ev_var rfl) (sq_of (c1 _ _ hW))) rv_I0)) (fun hb H6 e6 => ?_) (fun hb H6 e6 => ?_)
  · have hlt := of_decide_eq_true hb
    rw [List.length_map] at hlt
    refine s_ret (ev_var rfl) fun H7 e7 => q1 k ?_ H7 ((c1.trans e6).trans e7)
    rw [hrd, hend, if_neg (by omega)]
  · have hge := of_decide_eq_false hb
    rw [List.length_map] at hge
    rw [if_pos (by omega)] at hend
    have c16 := c1.trans e6
    refine s_retU (eu_tup (ea_cons (ev_var rfl) (ea_cons (ev_op (ev_var rfl) (ev_var rfl) (hat c16 (by omega))) (ea_cons (ev_op (ev_var rfl) ev_c (rv_ixL (sq_of (e6 _ _ c2)) (at_eq (atI_nat (j := 0) rfl) rfl))) (ea_cons (ev_op (ev_var rfl) ev_c (rv_ixL (sq_of (e6 _ _ c2)) (at_eq (atI_nat (j := 1) rfl) rfl))) (ea_cons (ev_op (ev_var rfl) (ev_op (ev_var rfl) ev_c rv_I0) (rv_ixL (sq_of (c16 _ _ hW)) (at_eq (at_str hlt2) rfl))) ea_nil))))) (by show 5 ≤ 100000; decide)) fun t H7 ht e7 hT => ?_
    exact q2 ⟨marks ws, wd ws (marks ws), h, f, wd ws (marks ws + 2)⟩ (by rw [hrd, hend]) _ H7 (c16.trans e7) ⟨t, a, b, rfl, hT, (e6.trans e7) _ _ c3, (e6.trans e7) _ _ c4⟩
end
end K56
set_option Elab.async false
set_option linter.all false
set_option maxRecDepth 100000
set_option maxHeartbeats 4000000
/-! K56, part D13: the law's own nesting. -/
namespace K56
open PySem PySem.W PyProof.Rows L2 Evl He
theorem given_cons {n : Nat} {f : Nat → Bool} {v : Nat → V} : Evl.given (n + 1) f v = (if f 0 = true then [v 0] else []) ++ Evl.given n (fun i => f (i + 1)) (fun i => v (i + 1)) := by
  unfold Evl.given
  rw [List.range_succ_eq_map, List.filter_cons, List.filter_map]
  split
  · rw [List.map_cons, List.map_map]
    rfl
  · rw [List.map_map]
    rfl
theorem ends_head {d : Nat} : ∀ (l : List KR) (off : Nat), (Evl.given l.length (fun i => decide (((l[i]?).getD default).dp ≤ d)) (fun i => V.int ((off + i : Nat) : Int)) ++ [V.int ((off + l.length : Nat) : Int)])[0]? = some (.int ((off + (l.takeWhile (above d)).length : Nat) : Int))
  | [], off => rfl
  | k :: r, off => by
    rw [List.length_cons, given_cons]
    show ((if decide (k.dp ≤ d) = true then [V.int ((off + 0 : Nat) : Int)] else []) ++ _ ++ _)[0]? = _
    by_cases h : k.dp ≤ d
    · rw [if_pos (decide_eq_true h), List.takeWhile_cons_of_neg (by unfold above; rw [decide_eq_true_eq]; omega)]
      rfl
    · rw [if_neg (by rw [decide_eq_false h]; decide), List.nil_append, List.takeWhile_cons_of_pos (by unfold above; rw [decide_eq_true_eq]; omega), List.length_cons]
      have ih := ends_head (d := d) r (off + 1)
      rw [show off + (r.length + 1) = off + 1 + r.length by omega, show off + ((r.takeWhile (above d)).length + 1) = off + 1 + (r.takeWhile (above d)).length by omega, ← ih]
      congr 2
      have e : (fun i => V.int ((off + 1 + i : Nat) : Int)) = fun i => V.int ((off + (i + 1) : Nat) : Int) := funext fun i => by rw [show off + 1 + i = off + (i + 1) by omega]
      rw [e]
      rfl
theorem take_while_len {α : Type} {p : α → Bool} : ∀ l : List α, l.take (l.takeWhile p).length = l.takeWhile p
  | [] => rfl
  | a :: r => by
    rw [List.takeWhile_cons]
    split
    · rw [List.length_cons, List.take_succ_cons, take_while_len r]
    · rfl
section
variable {P : Program} {w : World} {K : Frag} {mg : Str → Option Value} {base : Heap}
theorem el_lcR2 {ta : TA} {j : Nat} {vs : List Nat} {σ : L2.St} {H : Hp} {t : TT} {te : TE} {lo N : Nat} (f : Nat → Bool) (v : Nat → V) (h : EvA ta σ H [.int lo, .int ((lo + N : Nat) : Int)]) (hn : lo + N ≤ 40000) (hw : ∀ x, wipe ((wipe σ vs).set j (some x)) vs = wipe σ vs)
    (ht : ∀ (i : Nat) H1, Ex H H1 → i < N → EvT t ((wipe σ vs).set j (some (.int ((lo + i : Nat) : Int)))) H1 (f i)) (he : ∀ (i : Nat) H1, Ex H H1 → i < N → f i = true → Ev te ((wipe σ vs).set j (some (.int ((lo + i : Nat) : Int)))) H1 (v i)) :
    EvL (tLc (iRng2 ta) (gName j) t te vs) σ H (Evl.given N f v) := fun H0 e Q q => h H0 e _ fun H1 e1 => ⟨lo, ((lo + N : Nat) : Int), rfl, ⟨by omega, by omega, by omega, by omega⟩, fun Dl hD => by
  have hN : (((lo + N : Nat) : Int) - (lo : Int)).toNat = N := by omega
  refine lc_range (lo := lo) (n := (((lo + N : Nat) : Int) - (lo : Int)).toNat) (Cw H1 f v Dl) ⟨hD, Ex.new hD, upd_same⟩ (fun i H' hi p => ?_) (fun H' p => ?_)
  · have e0 : ((lo : Int) + (i : Int)) = ((lo + i : Nat) : Int) := by omega
    show wipe ((wipe σ vs).set j (some (.int ((lo : Int) + (i : Int))))) vs = wipe σ vs ∧ t ((wipe σ vs).set j (some (.int ((lo : Int) + (i : Int))))) H' fun b H3 => if b = true then te ((wipe σ vs).set j (some (.int ((lo : Int) + (i : Int))))) H3 fun y H4 => ∃ acc, H4 Dl = some (.lst acc) ∧ acc.length < sizeLine ∧ Cw H1 f v Dl (i + 1) (upd H4 Dl (.lst (acc ++ [y]))) else Cw H1 f v Dl (i + 1) H3
    rw [e0]
    exact ⟨hw _, cw_turn p (by omega) (ht i H1 (e.trans e1) (by omega)) (fun hf => he i H1 (e.trans e1) (by omega) hf)⟩
  · rw [hN] at p
    exact q Dl H' (fresh_back e1 p.1) (e1.trans p.2.1) p.2.2⟩
def spNested (n : Nat) : Sp := fun vs H Q _ => ∃ (ra : Addr) (xs : List V) (ks : List KR) (d : Nat), vs = [.ref ra, .int d] ∧ H ra = some (.lst xs) ∧ All2 (LKAt H) xs ks ∧ ks.length ≤ 60 ∧ (∀ k ∈ ks, k.dp ≤ 5) ∧ 7 ≤ n + d ∧ d ≤ 6 ∧
  ∀ v H', Ex H H' → Dt H' v (.tuple (nest n d ks).data) → Q v H'
theorem sc_l_nested : FnScope ["_law_rows", "_law_deep", "_law_found", "_law_k", "_law_end", "_law_j"] ["_law_rows", "_law_deep"] (defScope sNested) := ⟨rfl, rfl, rfl, by decide +kernel, rfl, by decide +kernel, by decide +kernel⟩
theorem ok_l_nested_step (T : TX P K mg) {n : Nat} (G_l_nested : OkF P w K mg base CX0 (1 + n) (ga K "_law_nested") ["_law_rows", "_law_deep"] (spNested n)) : OkF P w K mg base CX0 (1 + n + 1) (ga K "_law_nested") ["_law_rows", "_law_deep"] (spNested (n + 1)) := by
  refine OkF.mk0 T.d_l_nested sc_l_nested (fun _ _ _ _ _ _ us hl => match us, hl with | [_, _], _ => rfl) (fun vs H Q E h => ?_) (fun cdv A outs s H vs Q E hr h => ?_)
  · obtain ⟨_, _, _, _, rfl, _⟩ := h; rfl
  obtain ⟨ra, xs, ks, d, rfl, hK, hA, h60, hdp, hn, hd6, q⟩ := h
  refine ⟨_, (pss_cons (ps_set (i := 2) sc_l_nested.nd rfl (Or.inl rfl) (pe_lst pa_nil))
      (pss_cons (ps_for PassesOwn.never rfl (pi_range1 rfl T.b_range (pa_cons (pe_callB call_len_seq (by rfl) T.b_len PySem.boot_len (pa_cons (pv 0) pa_nil)) pa_nil)) (pg_name (i := 3) sc_l_nested.nd rfl (Or.inl rfl)) (pss_one (ps_if (pt_cmpR op_eq (pe_ix ix_tup (pe_ix ix_list (pv 0) (pv 3) (fun _ _ => rfl)) pe_int (fun _ _ => rfl)) (pv 1) (nomark _)) (pss_cons (ps_set (i := 4) sc_l_nested.nd rfl (Or.inl rfl) (pe_op op_cat (pe_lc (own := [("_law_j", 5)]) (g := (gName 5))  rfl sc_l_nested.nd (pi_range2 rfl T.b_range (pa_cons (pe_op op_add (pv 3) pe_int) (pa_cons (pe_callB call_len_seq (by rfl) T.b_len PySem.boot_len (pa_cons (pv 0) pa_nil)) pa_nil))) (blkOk_by (own := [("_law_j", 5)]) (N := ["_law_rows", "_law_deep", "_law_found", "_law_k", "_law_end", "_law_j"]) (sc := defScope sNested) (by decide +kernel)) (fun _ _ _ _ _ => (pg_name (i := 5) sc_l_nested.nd rfl (Or.inl rfl) (.inr (by rfl)))) (fun _ _ _ _ _ => pts_one (pt_cmpR op_le (pe_ix (show IxR _ (rIxT K) from ix_tup) (pe_ix (show IxR _ (rIxL K) from ix_list) (pv 0) (pv 5) (fun _ _ => rfl)) pe_int (fun _ _ => rfl)) (pv 1) (nomark _))) (fun _ _ _ _ _ => (pv 5))) (pe_lst (pa_cons (pe_callB call_len_seq (by rfl) T.b_len PySem.boot_len (pa_cons (pv 0) pa_nil)) pa_nil))))
      (pss_one (ps_expr (pe_bm PySem.F.plainAttrs_list PySem.F.slot_list_append PySem.F.type_list_append mt_append (pv 2) (pa_cons (pe_op op_catA (pe_slice sl_tupA (pe_ix ix_list (pv 0) (pv 3) (fun _ _ => rfl)) (po_some pe_int) po_none) (pe_tup (pa_cons (pe_c G_l_nested hr (by omega) T.g_l_nested (E := E0) passN (pa_cons (pe_slice sl_list (pv 0) (po_some (pe_op op_add (pv 3) pe_int)) (po_some (pe_ix ix_list (pv 4) pe_int (fun _ _ => rfl)))) (pa_cons (pe_op op_add (pv 1) pe_int) pa_nil))) pa_nil))) pa_nil))))) pss_nil)))
      (pss_one (ps_ret (pe_callTy call_tuple_of (by rfl) T.b_tuple (by decide +kernel) (pa_cons (pv 2) pa_nil)))))), ?_⟩
  have hxl : xs.length = ks.length := hA.1
  refine q_asgL el_nil fun l H0 hl e0 hL0 => ?_
  refine q_forR1 (n := (ks.length : Nat)) (ea_cons (ev_is (ev_len (ev_var rfl) (sq_of (e0 _ _ hK))) (by rw [hxl])) ea_nil) (by omega)
    (fun i σ' H' => ∃ vs' ds' x3 x4, σ' = [some (.ref ra), some (.int d), some (.ref l), x3, x4, none] ∧ Ex H H' ∧ H' l = some (.lst vs') ∧ DtAll H' vs' ds' ∧ ds' ++ (nestW (nest n (d + 1)) d (ks.drop i)).data = (nest (n + 1) d ks).data ∧ vs'.length ≤ i)
    (fun H1 e1 => ⟨[], [], none, none, rfl, e0.trans e1, e1 _ _ hL0, .nil, rfl, Nat.le_refl _⟩) (fun i σ' H' hi p => ?_) (fun σ' H' p => ?_)
  · obtain ⟨vs', ds', x3, x4, rfl, a1, a2, a3, a4, a5⟩ := p
    have hil : i < ks.length := by omega
    obtain ⟨k0, hk0⟩ : ∃ k0, ks[i]? = some k0 := ⟨_, List.getElem?_eq_getElem hil⟩
    obtain ⟨v0, hv0, t0, ha, fa, rfl, hT, hH, hF⟩ := hA.get hk0
    have hdr : ks.drop i = k0 :: ks.drop (i + 1) := by
      rw [List.drop_eq_getElem_cons hil]
      congr 1
      exact Option.some.inj ((List.getElem?_eq_getElem hil).symm.trans hk0)
    have hix : ∀ {H2 : Hp}, Ex H H2 → RV (rIxL K) (.ref ra) (.int (i : Nat)) H2 (.ref t0) := fun e => rv_ixL (sq_of (e _ _ hK)) (atI_nat hv0)
    refine s_when (b := decide (k0.dp = d)) (et_is (et_test (ev_op (ev_op (ev_op (ev_var rfl) (ev_var rfl) (hix a1)) ev_c (rv_ixT (st_of (a1 _ _ hT)) (at_eq (atI_nat (j := 0) rfl) rfl))) (ev_var rfl) rv_eqi)) (by rw [Bool.eq_iff_iff, decide_eq_true_eq, decide_eq_true_eq]; omega)) (fun hb H1 e1 => ?_) (fun hb H1 e1 => ?_)
    · have hd0 : k0.dp = d := of_decide_eq_true hb
      have a11 := a1.trans e1
      have hnw : nestW (nest n (d + 1)) d (ks.drop i) = .cons k0 (nest n (d + 1) ((ks.drop (i + 1)).takeWhile (above d))) (nestW (nest n (d + 1)) d (ks.drop (i + 1))) := by
        rw [hdr]
        show (if _ then _ else _) = _
        rw [if_pos hd0]
        rfl
      obtain ⟨m, hm⟩ : ∃ m : Nat, m = ((ks.drop (i + 1)).takeWhile (above d)).length := ⟨_, rfl⟩
      have hml : m ≤ ks.length - (i + 1) := by
        rw [hm, ← List.length_drop]
        exact (List.takeWhile_sublist _).length_le
      -- where it ends
      refine q_asgL (xs := Evl.given (ks.length - (i + 1)) (fun j => decide (((ks.drop (i + 1))[j]?.getD default).dp ≤ d)) (fun j => V.int ((i + 1 + j : Nat) : Int)) ++ [.int (ks.length : Nat)]) (el_catNN (el_lcR2 (lo := i + 1) (N := ks.length - (i + 1)) _ _ (ea_cons (ev_op (ev_var rfl) ev_c rv_I0) (ea_cons (ev_is (ev_len (ev_var rfl) (sq_of (a11 _ _ hK))) (by rw [hxl]; congr 1; omega)) ea_nil)) (by omega) (fun x => rfl) (fun j H2 e2 hj => ?_) (fun j H2 e2 hj hf => ev_var rfl)) (el_lst (ea_cons (ev_is (ev_len (ev_var rfl) (sq_of (a11 _ _ hK))) (by rw [hxl])) ea_nil) (by show 1 ≤ 100000; decide)) ?_) fun el H2 hel e2 hE => ?_
      · have hjl : i + 1 + j < ks.length := by omega
        obtain ⟨kj, hkj⟩ : ∃ kj, ks[i + 1 + j]? = some kj := ⟨_, List.getElem?_eq_getElem hjl⟩
        obtain ⟨vj, hvj, tj, haj, faj, rfl, hTj, _, _⟩ := hA.get hkj
        refine et_is (et_test (ev_op (ev_op (ev_op (ev_var rfl) (ev_var rfl) (rv_ixL (sq_of ((a11.trans e2) _ _ hK)) (atI_nat hvj))) ev_c (rv_ixT (st_of ((a11.trans e2) _ _ hTj)) (at_eq (atI_nat (j := 0) rfl) rfl))) (ev_var rfl) rv_I0)) ?_
        rw [List.getElem?_drop, hkj]
        show decide ((kj.dp : Int) ≤ (d : Int)) = decide (kj.dp ≤ d)
        rw [Bool.eq_iff_iff, decide_eq_true_eq, decide_eq_true_eq]
        omega
      · have := Evl.given_len (ks.length - (i + 1)) (fun j => decide (((ks.drop (i + 1))[j]?.getD default).dp ≤ d)) (fun j => V.int ((i + 1 + j : Nat) : Int))
        rw [List.length_singleton]
        omega
      have hhead := ends_head (d := d) (ks.drop (i + 1)) (i + 1)
      rw [List.length_drop, show i + 1 + (ks.length - (i + 1)) = ks.length by omega, ← hm] at hhead
      have a12 := a11.trans e2
      have e12 := e1.trans e2
      -- the rule with what is within it
      refine ⟨_, rfl, .inl ⟨rfl, _, sq_of (e12 _ _ a2)⟩, ?_⟩
      refine (ev_op (ev_var rfl) (ev_var rfl) (hix a12)) H2 (Ex.refl H2) _ fun H3 e3 => ?_
      refine ⟨_, rfl, t0, _, rfl, st_of ((a12.trans e3) _ _ hT), fun hw => absurd hw.1 (by show ¬ (min 1 5 = 0); decide), fun _ p4 hp4 => ?_⟩
      have e34 : Ex H3 (upd H3 p4 (.tup (cutV [.int k0.dp, .str k0.nm, .ref ha, .ref fa, .str k0.ru] (some 1) none))) := Ex.new hp4
      have h4 : upd H3 p4 (.tup (cutV [.int k0.dp, .str k0.nm, .ref ha, .ref fa, .str k0.ru] (some 1) none)) p4 = some (.tup [.str k0.nm, .ref ha, .ref fa, .str k0.ru]) := by
        rw [upd_same, cut_one]
        rfl
      revert e34 h4
      generalize upd H3 p4 (.tup (cutV [.int k0.dp, .str k0.nm, .ref ha, .ref fa, .str k0.ru] (some 1) none)) = H4
      intro e34 h4
      have e24 := e3.trans e34
      have a14 := a12.trans e24
      refine op_cons (op_k (op_cons ?_))
      refine go_sl (ev_var rfl) (eo_some (ev_op (ev_var rfl) ev_c rv_I0)) (eo_some (ev_op (ev_var rfl) ev_c (rv_ixL (sq_of (e24 _ _ hE)) (at_eq (atI_nat (j := 0) hhead) rfl)))) (sq_of (a14 _ _ hK)) fun p5 H5 hp5 e5 h5 => ?_
      rw [show cutV xs (some ((i : Int) + 1)) (some ((i + 1 + m : Nat) : Int)) = (xs.drop (i + 1)).take (i + 1 + m - (i + 1)) from cut_both (k := i + 1) (by omega) (by omega), Nat.add_sub_cancel_left] at h5
      refine op_cons ((ev_op (ev_var rfl) ev_c rv_I0) H5 (Ex.refl H5) _ fun H6 e6 => ?_)
      have a16 := (a14.trans e5).trans e6
      have e46 := e5.trans e6
      have hks : (ks.drop (i + 1)).take m = (ks.drop (i + 1)).takeWhile (above d) := by rw [hm, take_while_len]
      refine ⟨p5, _, (ks.drop (i + 1)).take m, d + 1, rfl, e6 _ _ h5, ((hA.drop _).take _).mono (fun v k z => z.mono a16), by rw [List.length_take, List.length_drop]; omega, fun k hk => hdp k (List.mem_of_mem_drop (List.mem_of_mem_take hk)), by omega, by have := hdp k0 (List.mem_of_getElem? hk0); omega, fun v H7 e7 hv => ?_⟩
      refine ⟨by show 1 ≤ sizeLine; decide, fun t8 ht8 => ?_⟩
      have e78 : Ex H7 (upd H7 t8 (.tup [v])) := Ex.new ht8
      have h8 : upd H7 t8 (.tup [v]) t8 = some (.tup [v]) := upd_same
      revert e78 h8
      generalize upd H7 t8 (.tup [v]) = H8
      intro e78 h8
      have e48 := (e46.trans e7).trans e78
      refine ⟨p4, t8, _, _, rfl, rfl, st_of (e48 _ _ h4), st_of h8, by show 5 ≤ sizeLine; decide, fun hn => (nomatch hn), fun _ hn => (nomatch hn), fun _ _ p9 hp9 => ?_⟩
      have a18 := a14.trans e48
      have e89 : Ex H8 (upd H8 p9 (.tup ([.str k0.nm, .ref ha, .ref fa, .str k0.ru] ++ [v]))) := Ex.new hp9
      have e19 := ((e12.trans e24).trans e48).trans e89
      have hL9 := e19 _ _ a2
      refine ⟨l, vs', _, rfl, rfl, hL9, sz_lt (by omega), vs' ++ [.ref p9], ds' ++ [.tuple [.str k0.nm, tupS k0.ho, tupS k0.fa, .str k0.ru, .tuple (nest n (d + 1) ((ks.drop (i + 1)).takeWhile (above d))).data]], _, _, rfl, (a1.trans e19).mut hl, upd_same, ?_, ?_, by rw [List.length_append, List.length_singleton]; omega⟩
      · refine DtAll.app ((a3.mono e19).updL hL9) (.cons ?_ .nil)
        refine Dt.updL hL9 (.tup upd_same ?_)
        have a19 := a18.trans e89
        rw [hks] at hv
        exact .cons (.str _) (.cons (dt_tupS (a19 _ _ hH)) (.cons (dt_tupS (a19 _ _ hF)) (.cons (.str _) (.cons (hv.mono (e78.trans e89)) .nil))))
      · rw [← a4, hnw, List.append_assoc]
        rfl
    · have hd0 : k0.dp ≠ d := of_decide_eq_false hb
      refine ⟨vs', ds', _, _, rfl, a1.trans e1, e1 _ _ a2, a3.mono e1, ?_, by omega⟩
      rw [← a4, hdr]
      show _ = ds' ++ (if _ then _ else _ : Fo).data
      rw [if_neg hd0]
  · obtain ⟨vs', ds', x3, x4, rfl, a1, a2, a3, a4, a5⟩ := p
    rw [show ((ks.length : Nat) : Int).toNat = ks.length from rfl, List.drop_eq_nil_of_le (Nat.le_refl _)] at a4
    refine ⟨_, rfl, l, _, rfl, .inl ⟨sq_of a2, fun t ht => ?_⟩⟩
    refine q _ _ (a1.trans (Ex.new ht)) (.tup upd_same ?_)
    rw [← a4]
    exact (List.append_nil ds').symm ▸ (a3.mono (Ex.new ht))
theorem ok_l_nested (T : TX P K mg) : ∀ n : Nat, OkF P w K mg base CX0 (1 + n) (ga K "_law_nested") ["_law_rows", "_law_deep"] (spNested n)
  | 0 => OkF.vac T.d_l_nested (fun _ _ _ _ _ _ us hl => match us, hl with | [_, _], _ => rfl) fun vs H Q E h => by
    obtain ⟨ra, xs, ks, d, _, _, _, _, _, h1, h2, _⟩ := h
    omega
  | n + 1 => ok_l_nested_step T (ok_l_nested T n)
end
end K56
set_option Elab.async false
set_option linter.all false
set_option maxRecDepth 100000
set_option maxHeartbeats 4000000
/-! K56, part D14: the law's own reader of a text. -/
namespace K56
open PySem PySem.W PyProof.Rows L2 Evl He
theorem LKAt.updL {H : Hp} {l : Addr} {xs : List V} {o : HO} {v : V} {k : KR} (hl : H l = some (.lst xs)) (h : LKAt H v k) : LKAt (upd H l o) v k := by
  obtain ⟨t, a, b, h1, h2, h3, h4⟩ := h
  exact ⟨t, a, b, h1, ex_updL hl h2 (fun _ z => nomatch z), ex_updL hl h3 (fun _ z => nomatch z), ex_updL hl h4 (fun _ z => nomatch z)⟩
theorem dt_err {H : Hp} {t : Addr} {a b : Int} (h : H t = some (.tup [.int a, .int b])) : Dt H (.ref t) (.tuple [.int a, .int b]) := .tup h (.cons (.int a) (.cons (.int b) .nil))
section
variable {P : Program} {w : World} {K : Frag} {mg : Str → Option Value} {base : Heap}
theorem isi_int {e : Int} {σ : L2.St} {H : Hp} {i : Nat} (h : σ[i]? = some (some (.int e))) : EvT (tB (tCB (rIsi K) (tCons (tVar i) (tCons (tC (.ty "int")) tNil)))) σ H true :=
  et_B (ev_cb (ea_cons (ev_var h) (ea_cons ev_c ea_nil)) (rc_isi (t := "int") (b := true) fun H9 e9 => .base (.int _)))
theorem isi_tup {t : Addr} {xs : List V} {σ : L2.St} {H : Hp} {i : Nat} (h : σ[i]? = some (some (.ref t))) (ht : H t = some (.tup xs)) : EvT (tB (tCB (rIsi K) (tCons (tVar i) (tCons (tC (.ty "int")) tNil)))) σ H false :=
  et_B (ev_cb (ea_cons (ev_var h) (ea_cons ev_c ea_nil)) (rc_isi (t := "tuple") (b := false) fun H9 e9 => .base (.tup (e9 _ _ ht))))
def spRead : Sp := fun vs H Q _ => ∃ t : Str, vs = [.str t] ∧ t.length ≤ 20000 ∧ ∀ v H', Ex H H' → Dt H' v (rdText t) → Q v H'
theorem sc_l_read : FnScope ["_law_text_here", "_law_rows", "_law_facts_here", "_law_known", "_law_k", "_law_words_here", "_law_outer", "_law_found", "_law_row"] ["_law_text_here"] (defScope sRead) := ⟨rfl, rfl, rfl, by decide +kernel, rfl, by decide +kernel, by decide +kernel⟩
theorem ok_l_read (T : TX P K mg) : OkF P w K mg base CX0 (9 + 1) (ga K "_law_read") ["_law_text_here"] spRead := by
  refine OkF.mk0 T.d_l_read sc_l_read (fun _ _ _ _ _ _ us hl => match us, hl with | [_], _ => rfl) (fun vs H Q E h => ?_) (fun cdv A outs s H vs Q E hr h => ?_)
  · obtain ⟨_, rfl, _⟩ := h; rfl
  obtain ⟨t, rfl, ht, q⟩ := h
  refine ⟨_, (pss_cons (ps_setLc (i := 1) (own := [("_law_row", 8)]) (g := (gName 8)) (tt := tYes) rfl sc_l_read.nd rfl rfl (sw_true rfl rfl rfl (by decide +kernel)) (pi_list (pe_split (pv 0) pe_str)) (blkOk_by (own := [("_law_row", 8)]) (N := ["_law_text_here", "_law_rows", "_law_facts_here", "_law_known", "_law_k", "_law_words_here", "_law_outer", "_law_found", "_law_row"]) (sc := defScope sRead) (by decide +kernel)) (fun _ _ _ _ _ => (pg_name (i := 8) sc_l_read.nd rfl (Or.inl rfl) (.inr (by rfl)))) (fun _ _ _ _ _ => pts_nil) (fun _ _ _ _ _ => (pe_split (pv 8) pe_str)))
      (pss_cons (ps_par (i := 2) (j := 3) rfl sc_l_read.nd rfl rfl (by decide) rfl rfl (pa_cons (pe_c (ok_l_read_facts T) hr (by omega) T.g_l_read_facts (E := E0) passN (pa_cons (pe_ix ix_list (pv 1) pe_int (fun _ _ => rfl)) pa_nil)) (pa_cons (pe_lst pa_nil) pa_nil)) rfl)
      (pss_cons (ps_if (pt_val (pe_callB call_isi (by rfl) T.b_isinstance (by decide +kernel) (pa_cons (pv 2) (pa_cons (pe_bltn (v := .ty "int") (by rfl) T.b_int (by decide +kernel) rfl) pa_nil)))) (pss_one (ps_ret (pe_tup (pa_cons pe_int (pa_cons (pv 2) pa_nil))))) pss_nil)
      (pss_cons (ps_for PassesOwn.never rfl (pi_range2 rfl T.b_range (pa_cons pe_int (pa_cons (pe_callB call_len_seq (by rfl) T.b_len PySem.boot_len (pa_cons (pv 1) pa_nil)) pa_nil))) (pg_name (i := 4) sc_l_read.nd rfl (Or.inl rfl)) (pss_cons (ps_set (i := 5) sc_l_read.nd rfl (Or.inl rfl) (pe_ix ix_list (pv 1) (pv 4) (fun _ _ => rfl)))
      (pss_cons (ps_if (pt_cmpR op_eq (pe_ix ix_list (pv 5) pe_int (fun _ _ => rfl)) pe_str (nomark _)) (pss_cons (ps_if (pw_or (pt_cmpR op_lt (pe_callB call_len_seq (by rfl) T.b_len PySem.boot_len (pa_cons (pv 5) pa_nil)) pe_int (nomark _)) (pw_or1 (pt_not (pt_val (pe_c (ok_l_named T) hr (by omega) T.g_l_named (E := E0) passN (pa_cons (pe_ix ix_list (pv 5) pe_int (fun _ _ => rfl)) pa_nil)))))).pt (pss_one (ps_ret (pe_tup (pa_cons (pv 4) (pa_cons pe_int pa_nil))))) pss_nil)
      (pss_cons (ps_if (pt_cmpR op_gt (pe_callB call_len_seq (by rfl) T.b_len PySem.boot_len (pa_cons (pv 5) pa_nil)) pe_int (nomark _)) (pss_one (ps_ret (pe_tup (pa_cons (pv 4) (pa_cons pe_int pa_nil))))) pss_nil)
      (pss_one (ps_ret (pe_ifExp (pt_cmpR op_eq (pe_op op_add (pv 4) pe_int) (pe_callB call_len_seq (by rfl) T.b_len PySem.boot_len (pa_cons (pv 1) pa_nil)) (nomark _)) (pe_tup (pa_cons (pv 2) (pa_cons (pe_c (ok_l_nested T 7) hr (by omega) T.g_l_nested (E := E0) passN (pa_cons (pv 3) (pa_cons pe_int pa_nil))) (pa_cons (pe_ix ix_list (pv 5) pe_int (fun _ _ => rfl)) pa_nil)))) (pe_tup (pa_cons (pe_op op_add (pv 4) pe_int) (pa_cons pe_int pa_nil)))))))) pss_nil)
      (pss_cons (ps_set (i := 6) sc_l_read.nd rfl (Or.inl rfl) (pe_callB call_len_seq (by rfl) T.b_len PySem.boot_len (pa_cons (pe_lc (own := [("_law_row", 8)]) (g := (gName 8))  rfl sc_l_read.nd (pi_list (pv 3)) (blkOk_by (own := [("_law_row", 8)]) (N := ["_law_text_here", "_law_rows", "_law_facts_here", "_law_known", "_law_k", "_law_words_here", "_law_outer", "_law_found", "_law_row"]) (sc := defScope sRead) (by decide +kernel)) (fun _ _ _ _ _ => (pg_name (i := 8) sc_l_read.nd rfl (Or.inl rfl) (.inr (by rfl)))) (fun _ _ _ _ _ => pts_one (pt_cmpR op_eq (pe_ix (show IxR _ (rIxT K) from ix_tup) (pv 8) pe_int (fun _ _ => rfl)) pe_int (nomark _))) (fun _ _ _ _ _ => (pv 8))) pa_nil)))
      (pss_cons (ps_if (pw_or (pt_cmpR op_eq (pe_callB call_len_seq (by rfl) T.b_len PySem.boot_len (pa_cons (pv 3) pa_nil)) pe_int (nomark _)) (pw_or1 (pw_and (pt_cmpR op_eq (pv 6) pe_int (nomark _)) (pw_and1 (pt_cmpR op_ne (pe_ix ix_list (pv 5) pe_int (fun _ _ => rfl)) pe_str (nomark _)))).pt)).pt (pss_one (ps_ret (pe_tup (pa_cons (pv 4) (pa_cons pe_int pa_nil))))) pss_nil)
      (pss_cons (ps_set (i := 7) sc_l_read.nd rfl (Or.inl rfl) (pe_c (ok_l_read_rule T) hr (by omega) T.g_l_read_rule (E := E0) passN (pa_cons (pv 5) (pa_cons (pv 2) (pa_cons (pe_lc (own := [("_law_row", 8)]) (g := (gName 8)) (tt := tYes)  rfl sc_l_read.nd (pi_list (pv 3)) (blkOk_by (own := [("_law_row", 8)]) (N := ["_law_text_here", "_law_rows", "_law_facts_here", "_law_known", "_law_k", "_law_words_here", "_law_outer", "_law_found", "_law_row"]) (sc := defScope sRead) (by decide +kernel)) (fun _ _ _ _ _ => (pg_name (i := 8) sc_l_read.nd rfl (Or.inl rfl) (.inr (by rfl)))) (fun _ _ _ _ _ => pts_nil) (fun _ _ _ _ _ => (pe_ix (show IxR _ (rIxT K) from ix_tup) (pv 8) pe_int (fun _ _ => rfl)))) (pa_cons (pe_ifExp (pt_cmpR (op_neE (hu_of hr)) (pv 3) (pe_lst pa_nil) (nomark _)) (pe_ix ix_tup (pe_ix ix_list (pv 3) (pe_un un_neg pe_int) (fun _ _ => rfl)) pe_int (fun _ _ => rfl)) (pe_op op_sub pe_int pe_int)) pa_nil))))))
      (pss_cons (ps_if (pt_val (pe_callB call_isi (by rfl) T.b_isinstance (by decide +kernel) (pa_cons (pv 7) (pa_cons (pe_bltn (v := .ty "int") (by rfl) T.b_int (by decide +kernel) rfl) pa_nil)))) (pss_one (ps_ret (pe_tup (pa_cons (pv 4) (pa_cons (pv 7) pa_nil))))) pss_nil)
      (pss_one (ps_expr (pe_bm PySem.F.plainAttrs_list PySem.F.slot_list_append PySem.F.type_list_append mt_append (pv 3) (pa_cons (pv 7) pa_nil)))))))))))
      (pss_one (ps_ret (pe_tup (pa_cons (pe_callB call_len_seq (by rfl) T.b_len PySem.boot_len (pa_cons (pv 1) pa_nil)) (pa_cons pe_int pa_nil))))))))), ?_⟩
  refine op_asg (go_rows (K := K) (i := 0) (j := 8) (vs := [8]) rfl ht (fun x => rfl) (fun x => rfl) fun ra H1 xs nra e1 hX hA => ?_)
  have hne := rowsT_ne t
  have hrl := rowsT_len (t := t)
  have hxl : xs.length = (rowsT t).length := hA.1
  have q' : ∀ v H', Ex H H' → Dt H' v (resD (rdB (rowsT t))) → Q v H' := q
  have hps := rowsT_pos (t := t)
  clear q
  revert hA hne hrl hxl q' hps
  generalize rowsT t = rws
  intro hA hne hrl hxl q hps
  obtain ⟨w0, hw0⟩ : ∃ w0, rws[0]? = some w0 := by
    cases rws with
    | nil => exact absurd rfl hne
    | cons a r => exact ⟨a, rfl⟩
  obtain ⟨v0, hv0, a0, rfl, hL0, hl0, hs0⟩ := hA.get hw0
  have hpos : 1 ≤ rws.length := by
    have := (List.getElem?_eq_some_iff.mp hw0).1
    omega
  refine op_par (op_cons (go_k (ea_cons (ev_op (ev_var rfl) ev_c (rv_ixL (sq_of hX) (at_eq (atI_nat (j := 0) hv0) rfl))) ea_nil) fun H2 e2 => ?_))
  refine ⟨a0, w0, rfl, e2 _ _ hL0, hps w0 (List.mem_of_getElem? hw0), hl0, hs0, fun fs hfs fa H3 e3 hF => ?_, fun e he H3 e3 => ?_⟩
  rotate_left
  · refine ⟨Nat.zero_le _, fun kl hkl => ⟨_, _, rfl, ?_⟩⟩
    refine q_when (b := true) (isi_int rfl) (fun _ H4 e4 => ?_) (fun hb => nomatch hb)
    refine s_retU (eu_tup (ea_cons ev_c (ea_cons (ev_var rfl) ea_nil)) (by show 2 ≤ 100000; decide)) fun p H5 hp e5 h5 => ?_
    refine q _ _ (((((e1.trans e2).trans e3).trans (Ex.new hkl)).trans e4).trans e5) ?_
    have : rdB rws = .inl (0, e) := by
      unfold rdB
      rw [hw0]
      show (match rdFacts w0 with
        | .inl e => _
        | .inr fs => _) = _
      rw [he]
    rw [this]
    exact dt_err h5
  have hrd : rdB rws = (match bookGo fs (rws.drop 1) 1 [] with
    | .inl x => .inl x
    | .inr (ks, ru) => .inr (fs, ks, ru)) := by
    unfold rdB
    rw [hw0]
    show (match rdFacts w0 with
      | .inl e => _
      | .inr fs => _) = _
    rw [hfs]
    all_goals rfl
  obtain ⟨FO, hfree⟩ := facts_ok hfs
  refine ⟨Nat.zero_le _, fun kl hkl => ⟨_, _, rfl, ?_⟩⟩
  have e13 := e2.trans e3
  have nkl : H1 kl = none := fresh_back e13 hkl
  have hK0 : upd H3 kl (.lst []) kl = some (.lst []) := upd_same
  have e14 : Ex H1 (upd H3 kl (.lst [])) := e13.trans (Ex.new hkl)
  have hF4 : ST (upd H3 kl (.lst [])) fa fs := Ex.new hkl _ _ hF
  revert hK0 e14 hF4
  generalize upd H3 kl (.lst []) = H4
  intro hK0 e14 hF4
  refine q_when (b := false) (isi_tup rfl hF4) (fun hb => nomatch hb) (fun _ H5 e5 => ?_)
  have err : ∀ k e : Nat, bookGo fs (rws.drop 1) 1 [] = .inl (k, e) → resD (rdB rws) = .tuple [.int k, .int e] := fun k e h => by
    rw [hrd, h]
    rfl
  refine q_forR2 (lo := 1) (n := (rws.length : Nat)) (ea_cons ev_c (ea_cons (ev_is (ev_len (ev_var rfl) (sq_of ((e14.trans e5) _ _ hX))) (by rw [hxl])) ea_nil)) (by omega)
    (fun i σ' H' => ∃ vs ks x4 x5 x6 x7, σ' = [some (.str t), some (.ref ra), some (.ref fa), some (.ref kl), x4, x5, x6, x7, none] ∧ Ex H1 H' ∧ ST H' fa fs ∧ H' kl = some (.lst vs) ∧ All2 (LKAt H') vs ks ∧ KGood fs ks ∧
      bookGo fs (rws.drop 1) 1 [] = bookGo fs (rws.drop (1 + i)) (1 + i) ks)
    (fun H6 e6 => ⟨[], [], none, none, none, none, rfl, (e14.trans e5).trans e6, (e5.trans e6) _ _ hF4, (e5.trans e6) _ _ hK0, All2.nil, kgood_nil fs, rfl⟩) (fun i σ' H6 hi p => ?_) (fun σ' H6 p => ?_)
  · obtain ⟨vs, ks, x4, x5, x6, x7, rfl, a1, a2, a3, a4, a5, a6⟩ := p
    have hil : 1 + i < rws.length := by omega
    obtain ⟨ws, hws⟩ : ∃ ws, rws[1 + i]? = some ws := ⟨_, List.getElem?_eq_getElem hil⟩
    obtain ⟨v1, hv1, wa, rfl, hW, hwl, hwsm⟩ := hA.get hws
    have hws1 := hps ws (List.mem_of_getElem? hws)
    have hdrop : rws.drop (1 + i) = ws :: rws.drop (1 + i + 1) := by
      rw [List.drop_eq_getElem_cons hil]
      congr 1
      exact Option.some.inj ((List.getElem?_eq_getElem hil).symm.trans hws)
    rw [hdrop] at a6
    have e1i : ((1 : Int) + (i : Int)) = ((1 + i : Nat) : Int) := by omega
    rw [e1i]
    refine q_asg (ev_op (ev_var rfl) (ev_var rfl) (rv_ixL (sq_of (a1 _ _ hX)) (atI_nat hv1))) fun H7 e7 => ?_
    have a17 := a1.trans e7
    have hat : ∀ {H2 : Hp} {p : Nat}, Ex H1 H2 → p < ws.length → RV (rIxL K) (.ref wa) (.int (p : Nat)) H2 (.str (wd ws p)) := fun e h => rv_ixL (sq_of (e _ _ hW)) (at_str h)
    have hat0 : ∀ {H2 : Hp}, Ex H1 H2 → RV (rIxL K) (.ref wa) (.int 0) H2 (.str (wd ws 0)) := fun e => hat (p := 0) e hws1
    refine q_when (b := decide (wd ws 0 = "else")) (et_test (ev_op (ev_op (ev_var rfl) ev_c (hat0 a17)) ev_c rv_eqs)) (fun hb H8 e8 => ?_) (fun hb H8 e8 => ?_)
    · have hw : wd ws 0 = "else" := of_decide_eq_true hb
      have a18 := a17.trans e8
      have hbg : bookGo fs (rws.drop 1) 1 [] = (if isFree (wd ws 1) = false then .inl (1 + i, 1) else if 2 < ws.length then .inl (1 + i, 2) else if rws.drop (1 + i + 1) ≠ [] then .inl (1 + i + 1, 0) else .inr (ks, wd ws 1)) := by
        rw [a6]
        show (if _ then _ else _) = _
        rw [if_pos hw]
      refine q_when (b := !isFree (wd ws 1)) (et_is (et_or (et_test (ev_op (ev_len (ev_var rfl) (sq_of (a18 _ _ hW))) ev_c rv_I0)) fun h2 => et_not (et_B (ev_named (ev_op (ev_var rfl) ev_c (hat (p := 1) a18 (by have := of_decide_eq_false h2; rw [List.length_map] at this; omega))) (wd_small hwsm)))) ?_) (fun hb2 H9 e9 => ?_) (fun hb2 H9 e9 => ?_)
      · rw [List.length_map]
        by_cases c : ((ws.length : Nat) : Int) < 2
        · rw [decide_eq_true c, wd_out (show ws.length ≤ 1 by omega), free_nil]
          rfl
        · rw [decide_eq_false c]
          rfl
      · refine s_retU (eu_tup (ea_cons (ev_var rfl) (ea_cons ev_c ea_nil)) (by show 2 ≤ 100000; decide)) fun p H10 hp e10 h10 => ?_
        refine q _ _ (e1.trans ((a18.trans e9).trans e10)) ?_
        rw [err (1 + i) 1 (by rw [hbg, if_pos (by simpa using hb2)])]
        exact dt_err h10
      · have hf : isFree (wd ws 1) = true := by simpa using hb2
        rw [if_neg (by rw [hf]; decide)] at hbg
        have a19 := a18.trans e9
        refine q_when (et_test (ev_op (ev_len (ev_var rfl) (sq_of (a19 _ _ hW))) ev_c rv_I0)) (fun hb3 H10 e10 => ?_) (fun hb3 H10 e10 => ?_)
        · have h2 := of_decide_eq_true hb3
          rw [List.length_map] at h2
          refine s_retU (eu_tup (ea_cons (ev_var rfl) (ea_cons ev_c ea_nil)) (by show 2 ≤ 100000; decide)) fun p H11 hp e11 h11 => ?_
          refine q _ _ (e1.trans ((a19.trans e10).trans e11)) ?_
          rw [err (1 + i) 2 (by rw [hbg, if_pos (by omega)])]
          exact dt_err h11
        · have h2 := of_decide_eq_false hb3
          rw [List.length_map] at h2
          rw [if_neg (by omega)] at hbg
          have a110 := a19.trans e10
          refine op_ret ?_
          refine go_if (b := decide (1 + i + 1 = rws.length)) (et_is (et_test (ev_op (ev_op (ev_var rfl) ev_c rv_I0) (ev_len (ev_var rfl) (sq_of (a110 _ _ hX))) rv_eqi)) (by rw [Bool.eq_iff_iff, decide_eq_true_eq, decide_eq_true_eq]; omega)) (fun hb4 H11 e11 => ?_) (fun hb4 H11 e11 => ?_)
          · have hend : 1 + i + 1 = rws.length := of_decide_eq_true hb4
            rw [if_neg (fun h => h (List.drop_eq_nil_of_le (by omega)))] at hbg
            have e611 := ((((e7.trans e8).trans e9).trans e10).trans e11)
            refine ⟨_, rfl, go_k (ea_cons (ev_var rfl) (ea_cons ev_c ea_nil)) fun H12 e12 => ?_⟩
            have e612 := e611.trans e12
            refine ⟨kl, vs, ks, 0, rfl, e612 _ _ a3, a4.mono fun v k z => z.mono e612, a5.len, fun k hk => (a5.one k hk).2.2.1, by omega, by omega, fun v H13 e13' hv => ?_⟩
            refine (ev_op (ev_var rfl) ev_c (hat (p := 1) ((a1.trans e612).trans e13') (free_lt hf))) H13 (Ex.refl H13) _ fun H14 e14' => ?_
            refine ⟨by show 3 ≤ sizeLine; decide, fun p hp => ?_⟩
            have e615 := (e612.trans e13').trans (e14'.trans (Ex.new (o := .tup [.ref fa, v, .str (wd ws 1)]) hp))
            refine q _ _ (e1.trans (a1.trans e615)) ?_
            rw [hrd, hbg]
            exact .tup upd_same (.cons (dt_tupS (e615 _ _ a2)) (.cons (hv.mono (e14'.trans (Ex.new hp))) (.cons (.str _) .nil)))
          · have hend : ¬ 1 + i + 1 = rws.length := of_decide_eq_false hb4
            refine (eu_tup (ea_cons (ev_op (ev_var rfl) ev_c rv_I0) (ea_cons ev_c ea_nil)) (by show 2 ≤ 100000; decide)) H11 (Ex.refl H11) _ fun p H12 hp e12 h12 => ?_
            refine q _ _ (e1.trans ((a110.trans e11).trans e12)) ?_
            rw [err (1 + i + 1) 0 (by
              rw [hbg, if_pos]
              intro z
              have := congrArg List.length z
              rw [List.length_drop] at this
              simp at this
              omega)]
            exact dt_err h12
    · have hw : wd ws 0 ≠ "else" := of_decide_eq_false hb
      have a18 := a17.trans e8
      have e68 := e7.trans e8
      have hlen : vs.length = ks.length := a4.1
      have hbg : bookGo fs (rws.drop 1) 1 [] = (match rrOf fs ks ws with
          | .inl e => .inl (1 + i, e)
          | .inr kr => bookGo fs (rws.drop (1 + i + 1)) (1 + i + 1) (ks ++ [kr])) := by
        rw [a6]
        show (if _ then _ else _) = _
        rw [if_neg hw]
        unfold rrOf
        split
        · rfl
        · rfl
      have a4' : All2 (LKAt H8) vs ks := a4.mono fun v k z => z.mono e68
      have hk8 : H8 kl = some (.lst vs) := e68 _ _ a3
      -- outermost
      refine q_asg (v := .int (outer ks : Nat)) (ev_is (ev_lenN (el_lcL (fun i => decide ((ks[i]?.getD default).dp = 0)) (fun i => vs[i]?.getD .non) (ev_var rfl) (sq_of hk8) (by have := a5.len; omega) (fun x => rfl) (fun i v H1 e1 hv => ?_) (fun i v H1 e1 hv hf => ?_))) ?_) fun H9 e9 => ?_
      · obtain ⟨k, hk, t, ha, fa2, rfl, h1, h2, h3⟩ := a4'.getV hv
        rw [hk]
        refine et_is (et_test (ev_op (ev_op (ev_var rfl) ev_c (rv_ixT (st_of (e1 _ _ h1)) (at_eq (atI_nat (j := 0) rfl) rfl))) ev_c rv_eqi)) ?_
        show decide ((k.dp : Int) = 0) = decide (k.dp = 0)
        rw [Bool.eq_iff_iff, decide_eq_true_eq, decide_eq_true_eq]
        omega
      · rw [hv]
        exact ev_var rfl
      · rw [hlen]
        exact congrArg (fun n : Nat => V.int (n : Int)) (given_filter ks default (fun k : KR => decide (k.dp = 0)) _)
      have e89 := e9
      have a19 := a18.trans e9
      have hk9 := e9 _ _ hk8
      -- many
      refine q_when (b := decide (ks.length = 60) || (decide (outer ks = 40) && !decide (wd ws 0 = ">"))) (et_or (et_test (ev_is (ev_op (ev_len (ev_var rfl) (sq_of hk9)) ev_c rv_eqi) (by congr 1; rw [hlen, Bool.eq_iff_iff, decide_eq_true_eq, decide_eq_true_eq]; omega))) fun _ => et_and (et_test (ev_is (ev_op (ev_var rfl) ev_c rv_eqi) (by congr 1; rw [Bool.eq_iff_iff, decide_eq_true_eq, decide_eq_true_eq]; omega))) fun _ => et_test (ev_op (ev_op (ev_var rfl) ev_c (hat0 a19)) ev_c rv_nes)) (fun hb3 H10 e10 => ?_) (fun hb3 H10 e10 => ?_)
      · refine s_retU (eu_tup (ea_cons (ev_var rfl) (ea_cons ev_c ea_nil)) (by show 2 ≤ 100000; decide)) fun p H11 hp e11 h11 => ?_
        refine q _ _ (e1.trans ((a19.trans e10).trans e11)) ?_
        rw [err (1 + i) 0 (by
          rw [hbg]
          have : rrOf fs ks ws = .inl 0 := by
            unfold rrOf
            rw [if_pos]
            rintro ⟨h1, h2⟩
            rw [decide_eq_false (show ¬ ks.length = 60 by omega), Bool.false_or, Bool.and_eq_true, decide_eq_true_eq] at hb3
            rcases h2 with h2 | h2
            · rw [h2] at hb3
              simp at hb3
            · omega
          rw [this])]
        exact dt_err h11
      · have hrr : rrOf fs ks ws = rdRule fs (ks.map (·.nm)) (deepest ks) ws := by
          unfold rrOf
          rw [if_neg]
          intro h
          apply h
          rw [Bool.or_eq_false_iff, Bool.and_eq_false_iff] at hb3
          have h60 := a5.len
          have h40 := a5.out
          refine ⟨by have := of_decide_eq_false hb3.1; omega, ?_⟩
          rcases hb3.2 with h | h
          · exact .inr (by have := of_decide_eq_false h; omega)
          · exact .inl (by simpa using h)
        rw [hrr] at hbg
        have e810 := e9.trans e10
        have a110 := a19.trans e10
        have hk10 := e10 _ _ hk9
        have a4'' : All2 (LKAt H10) vs ks := a4'.mono fun v k z => z.mono e810
        refine op_asg (op_k (op_cons ⟨_, rfl, op_cons ⟨_, rfl, op_cons ?_⟩⟩))
        have hlc := el_lcL (K := K) (H := H10) (te := tOp (rIxT K) (tVar 8) (tC (.int 1))) (t := tYes) (j := 8) (vs := [8]) (fun _ => true) (fun i => V.str ((ks[i]?.getD default).nm)) (ev_var (i := 3) (σ := [some (.str t), some (.ref ra), some (.ref fa), some (.ref kl), some (.int ((1 + i : Nat) : Int)), some (.ref wa), some (.int (outer ks : Nat)), x7, none]) rfl) (sq_of hk10) (by have := a5.len; omega) (fun x => rfl) (fun i v H1 e1 hv => et_yes) (fun i v H1 e1 hv hf => by
          obtain ⟨k, hk, t, ha, fa2, rfl, h1, h2, h3⟩ := a4''.getV hv
          rw [hk]
          exact ev_op (ev_var rfl) ev_c (rv_ixT (st_of (e1 _ _ h1)) (at_eq (atI_nat (j := 1) rfl) rfl)))
        rw [hlen, given_map (g := fun k : KR => V.str k.nm)] at hlc
        refine hlc H10 (Ex.refl H10) _ fun nl H11 hnl e11 h11 => op_cons ?_
        have hk11 := e11 _ _ hk10
        have e811 := e810.trans e11
        have a4l : All2 (LKAt H11) vs ks := a4''.mono fun v k z => z.mono e11
        refine (Ev.v (v := .int ((lastD ks : Int) - 1)) (ev_if (et_test (ev_neE (ev_var rfl) (sq_of hk11) el_nil)) (fun hb5 => ?_) (fun hb5 => ?_)) fun H12 e12 => ?_)
        · have hne2 : ks ≠ [] := fun z => by
            have : vs = [] := List.eq_nil_of_length_eq_zero (by rw [hlen, z]; rfl)
            rw [decide_eq_true this] at hb5
            cases hb5
          have hk : ks.getLast? = some (ks.getLast hne2) := List.getLast?_eq_getLast hne2
          obtain ⟨v, hv, t, ha, fa2, rfl, h1, h2, h3⟩ := a4l.last hk
          refine ev_is (ev_op (ev_op (ev_var rfl) (ev_un ev_c ru_neg) (rv_ixL (sq_of hk11) hv)) ev_c (rv_ixT (st_of h1) (at_eq (atI_nat (j := 0) rfl) rfl))) ?_
          unfold lastD
          rw [hk]
          congr 1
          show _ = (((ks.getLast hne2).dp + 1 : Nat) : Int) - 1
          omega
        · have hn : vs = [] := of_decide_eq_true (by simpa using hb5)
          have hk : ks = [] := List.eq_nil_of_length_eq_zero (by rw [← hlen, hn]; rfl)
          rw [hk]
          exact ev_op ev_c ev_c rv_I0
        have e812 := e811.trans e12
        have a112 := (a110.trans e11).trans e12
        have e612 := e68.trans e812
        rw [deepest_eq] at hbg
        refine ⟨wa, fa, nl, ws, fs, ks.map (·.nm), lastD ks, rfl, a112 _ _ hW, e612 _ _ a2, ?_, hwl, hwsm, fun e he H13 e13' => ?_, fun kr hkr v H13 e13' hv => ?_⟩
        · show H12 nl = _
          rw [e12 _ _ h11, List.map_map]
          rfl
        · refine q_when (b := true) (isi_int rfl) (fun _ H14 e14' => ?_) (fun hb => nomatch hb)
          refine s_retU (eu_tup (ea_cons (ev_var rfl) (ea_cons (ev_var rfl) ea_nil)) (by show 2 ≤ 100000; decide)) fun p H15 hp e15 h15 => ?_
          refine q _ _ (e1.trans (((a112.trans e13').trans e14').trans e15)) ?_
          rw [err (1 + i) e (by rw [hbg, he])]
          exact dt_err h15
        · obtain ⟨tt, ha, fb, rfl, h1, h2, h3⟩ := hv
          refine q_when (b := false) (isi_tup rfl h1) (fun hb => nomatch hb) (fun _ H14 e14' => ?_)
          have e614 := (e612.trans e13').trans e14'
          have hk14 := e614 _ _ a3
          refine s_app hk14 (ev_var rfl) (ev_var rfl) (by have := a5.len; omega) fun H15 e15 => ?_
          have e615 := e614.trans e15
          have hk15 := e615 _ _ a3
          have hv15 : LKAt H15 (.ref tt) kr := LKAt.mono (H := H13) ⟨tt, ha, fb, rfl, h1, h2, h3⟩ (e14'.trans e15)
          refine ⟨vs ++ [.ref tt], ks ++ [kr], _, _, _, _, rfl, (a1.trans e615).mut nkl, ex_updL hk15 (e615 _ _ a2) (fun _ z => nomatch z), upd_same, All2.snoc (a4.mono fun v k z => (z.mono e615).updL hk15) (hv15.updL hk15), rrOf_ok a5 (by rw [hrr, deepest_eq]; exact hkr), ?_⟩
          rw [hbg, hkr]
          rfl
  · obtain ⟨vs, ks, x4, x5, x6, x7, rfl, a1, a2, a3, a4, a5, a6⟩ := p
    rw [show 1 + (((rws.length : Nat) : Int) - 1).toNat = rws.length by omega, List.drop_eq_nil_of_le (Nat.le_refl _)] at a6
    refine s_retU (eu_tup (ea_cons (ev_is (ev_len (ev_var rfl) (sq_of (a1 _ _ hX))) (by rw [hxl])) (ea_cons ev_c ea_nil)) (by show 2 ≤ 100000; decide)) fun p H7 hp e7 h7 => ?_
    refine q _ _ (e1.trans (a1.trans e7)) ?_
    rw [err rws.length 0 (by rw [a6]; rfl)]
    exact dt_err h7
end
end K56
set_option Elab.async false
set_option linter.all false
set_option maxRecDepth 100000
set_option maxHeartbeats 4000000
/-! K56, part D15: alike. -/
namespace K56
open PySem PySem.W PyProof.Rows L2 Evl He
/-- x and y are the same data, at most n deep -/
def Alk : Nat → Hp → V → V → Prop
  | 0, _, _, _ => False
  | n + 1, H, x, y => (∃ i, x = .int i ∧ y = .int i) ∨ (∃ z, x = .str z ∧ y = .str z) ∨
    ∃ a b xs ys, x = .ref a ∧ y = .ref b ∧ ((H a = some (.tup xs) ∧ H b = some (.tup ys)) ∨ (H a = some (.lst xs) ∧ H b = some (.lst ys))) ∧ xs.length = ys.length ∧ ys.length ≤ 1000 ∧ ∀ (i : Nat) u v, xs[i]? = some u → ys[i]? = some v → Alk n H u v
theorem Alk.mono {H H' : Hp} (e : Ex H H') : ∀ {n : Nat} {x y : V}, Alk n H x y → Alk n H' x y
  | 0, _, _, h => h.elim
  | n + 1, x, y, h => by
    rcases h with h | h | ⟨a, b, xs, ys, h1, h2, h3, h4, h5, h6⟩
    · exact .inl h
    · exact .inr (.inl h)
    · refine .inr (.inr ⟨a, b, xs, ys, h1, h2, ?_, h4, h5, fun i u v p q => Alk.mono e (h6 i u v p q)⟩)
      rcases h3 with h | h
      · exact .inl ⟨e _ _ h.1, e _ _ h.2⟩
      · exact .inr ⟨e _ _ h.1, e _ _ h.2⟩
theorem Alk.up {H : Hp} : ∀ {n m : Nat} {x y : V}, n ≤ m → Alk n H x y → Alk m H x y
  | 0, _, _, _, _, h => h.elim
  | n + 1, 0, _, _, hm, _ => absurd hm (by omega)
  | n + 1, m + 1, x, y, hm, h => by
    rcases h with h | h | ⟨a, b, xs, ys, h1, h2, h3, h4, h5, h6⟩
    · exact .inl h
    · exact .inr (.inl h)
    · exact .inr (.inr ⟨a, b, xs, ys, h1, h2, h3, h4, h5, fun i u v p q => Alk.up (by omega) (h6 i u v p q)⟩)
def rIxA (K : Frag) : R2 := fun x y H Q => ∃ p xs i v, x = .ref p ∧ y = .int i ∧ (SqL K H p xs ∨ SqT K H p xs) ∧ atI xs i = some v ∧ Q v H
theorem ix_any {X : Cx} : IxR X (rIxA X.K) := by
  intro value slice pins s σ H x y v u Q I rx ry h hs
  obtain ⟨p, xs, i, z, hx, hy, hq, he, q⟩ := h
  rcases hq with hq | hq
  · exact ix_list value slice pins s σ H x y v u Q I rx ry ⟨p, xs, i, z, hx, hy, hq, he, q⟩ hs
  · exact ix_tup value slice pins s σ H x y v u Q I rx ry ⟨p, xs, i, z, hx, hy, hq, he, q⟩ hs
theorem kit2 {K : Frag} {t a b : String} {r1 r2 : Bool} (h1 : kitB t a = some r1) (h2 : kitB t b = some r2) : kitAny K (.type t) [.type a, .type b] = some (r1 || r2) := by
  unfold kitAny
  rw [kit_ty h1]
  cases r1 with
  | true => rfl
  | false =>
    show kitAny K (.type t) [.type b] = some r2
    unfold kitAny
    rw [kit_ty h2]
    cases r2 with
    | true => rfl
    | false => rfl
section
variable {P : Program} {w : World} {K : Frag} {mg : Str → Option Value} {base : Heap}
section
variable {σ : L2.St} {H : Hp} {te : TE} {x : V} {t u : String} {b b1 b2 : Bool}
theorem et_isiT (hx : Ev te σ H x) (ty : ∀ H1, Ex H H1 → TyX K H1 x (.type t)) (k1 : kitB t "tuple" = some b1) (k2 : kitB t "list" = some b2) :
    EvT (tB (tCB (rIsiT K) (tCons te (tCons (tTup (tCons (tC (.ty "tuple")) (tCons (tC (.ty "list")) tNil))) tNil)))) σ H (b1 || b2) := fun H1 e Q q =>
  hx H1 e _ fun H2 e2 => ⟨by show 2 ≤ sizeLine; decide, fun p hp => ⟨x, p, [.ty "tuple", .ty "list"], .type t, [.type "tuple", .type "list"], b1 || b2, rfl, upd_same, .cons (.ty "tuple") (.cons (.ty "list") .nil), ty _ ((e.trans e2).trans (Ex.new hp)), kit2 k1 k2, _, rfl, q _ (e2.trans (Ex.new hp))⟩⟩
theorem ev_isi (hx : Ev te σ H x) (ty : ∀ H1, Ex H H1 → TyX K H1 x (.type t)) (k1 : kitB t u = some b) : Ev (tCB (rIsi K) (tCons te (tCons (tC (.ty u)) tNil))) σ H (.bl b) := ev_cb (ea_cons hx (ea_cons ev_c ea_nil)) (rc_isi ty k1)
end
def spAlike (n : Nat) : Sp := fun vs H Q _ => ∃ (x y : V), vs = [x, y] ∧ Alk n H x y ∧ RetV (.bl true) H Q
theorem ty_int {H : Hp} {i : Int} : ∀ H1, Ex H H1 → TyX K H1 (.int i) (.type "int") := fun _ _ => .base (.int i)
theorem ty_tup {H : Hp} {a : Addr} {xs : List V} (h : H a = some (.tup xs)) : ∀ H1, Ex H H1 → TyX K H1 (.ref a) (.type "tuple") := fun _ e => .base (.tup (e _ _ h))
theorem ty_lst {H : Hp} {a : Addr} {xs : List V} (h : H a = some (.lst xs)) : ∀ H1, Ex H H1 → TyX K H1 (.ref a) (.type "list") := fun _ e => .base (.lst (e _ _ h))
theorem rv_isN {x : V} {H : Hp} : RV (fun x y H Q => y = .non ∧ Q (.bl (decide (x = .non))) H) x .non H (.bl (decide (x = .non))) := fun H1 _ _ q => ⟨rfl, q H1 (Ex.refl H1)⟩
theorem sc_l_alike : FnScope ["_law_found", "_law_due", "_law_k"] ["_law_found", "_law_due"] (defScope sAlike) := ⟨rfl, rfl, rfl, by decide +kernel, rfl, by decide +kernel, by decide +kernel⟩
theorem ok_l_alike_step (T : TX P K mg) {n : Nat} (G_l_alike : OkF P w K mg base CX0 (1 + n) (ga K "_law_alike") ["_law_found", "_law_due"] (spAlike n)) : OkF P w K mg base CX0 (1 + n + 1) (ga K "_law_alike") ["_law_found", "_law_due"] (spAlike (n + 1)) := by
  refine OkF.mk0 T.d_l_alike sc_l_alike (fun _ _ _ _ _ _ us hl => match us, hl with | [_, _], _ => rfl) (fun vs H Q E h => ?_) (fun cdv A outs s H vs Q E hr h => ?_)
  · obtain ⟨_, _, rfl, _⟩ := h; rfl
  obtain ⟨x, y, rfl, hA, q⟩ := h
  refine ⟨_, (pss_cons (ps_if (pt_val (pe_callB call_isi (by rfl) T.b_isinstance (by decide +kernel) (pa_cons (pv 1) (pa_cons (pe_bltn (v := .ty "dict") (by rfl) T.b_dict (by decide +kernel) rfl) pa_nil)))) (pss_one ps_never) pss_nil)
      (pss_cons (ps_if (pt_val (pe_callB call_isiT (by rfl) T.b_isinstance (by decide +kernel) (pa_cons (pv 1) (pa_cons (pe_tup (pa_cons (pe_bltn (v := .ty "tuple") (by rfl) T.b_tuple (by decide +kernel) rfl) (pa_cons (pe_bltn (v := .ty "list") (by rfl) T.b_list (by decide +kernel) rfl) pa_nil))) pa_nil)))) (pss_cons (ps_if (pw_or (pt_not (pt_val (pe_callB call_isiT (by rfl) T.b_isinstance (by decide +kernel) (pa_cons (pv 0) (pa_cons (pe_tup (pa_cons (pe_bltn (v := .ty "tuple") (by rfl) T.b_tuple (by decide +kernel) rfl) (pa_cons (pe_bltn (v := .ty "list") (by rfl) T.b_list (by decide +kernel) rfl) pa_nil))) pa_nil))))) (pw_or1 (pt_cmpR op_ne (pe_callB call_isi (by rfl) T.b_isinstance (by decide +kernel) (pa_cons (pv 0) (pa_cons (pe_bltn (v := .ty "list") (by rfl) T.b_list (by decide +kernel) rfl) pa_nil))) (pe_callB call_isi (by rfl) T.b_isinstance (by decide +kernel) (pa_cons (pv 1) (pa_cons (pe_bltn (v := .ty "list") (by rfl) T.b_list (by decide +kernel) rfl) pa_nil))) (nomark _)))).pt (pss_one (ps_ret pe_bl)) pss_nil)
      (pss_cons (ps_if (pt_cmpR op_ne (pe_callB call_len_seq (by rfl) T.b_len PySem.boot_len (pa_cons (pv 0) pa_nil)) (pe_callB call_len_seq (by rfl) T.b_len PySem.boot_len (pa_cons (pv 1) pa_nil)) (nomark _)) (pss_one (ps_ret pe_bl)) pss_nil)
      (pss_one (ps_ret (pe_cmpR (op_eqE (hu_of hr)) (pe_lc (own := [("_law_k", 2)]) (g := (gName 2))  rfl sc_l_alike.nd (pi_range1 rfl T.b_range (pa_cons (pe_callB call_len_seq (by rfl) T.b_len PySem.boot_len (pa_cons (pv 1) pa_nil)) pa_nil)) (blkOk_by (own := [("_law_k", 2)]) (N := ["_law_found", "_law_due", "_law_k"]) (sc := defScope sAlike) (by decide +kernel)) (fun _ _ _ _ _ => (pg_name (i := 2) sc_l_alike.nd rfl (Or.inl rfl) (.inr (by rfl)))) (fun _ _ _ _ _ => pts_one (pt_not (pt_val (pe_c G_l_alike hr (by omega) T.g_l_alike (E := E0) passN (pa_cons (pe_ix (show IxR _ (rIxA K) from ix_any) (pv 0) (pv 2) (fun _ _ => rfl)) (pa_cons (pe_ix (show IxR _ (rIxA K) from ix_any) (pv 1) (pv 2) (fun _ _ => rfl)) pa_nil)))))) (fun _ _ _ _ _ => (pv 2))) (pe_lst pa_nil) (nomark _)))))) pss_nil)
      (pss_cons (ps_if (pw_or (pt_cmpR op_isN (pv 1) pe_non (nomark _)) (pw_or1 (pt_val (pe_callB call_isi (by rfl) T.b_isinstance (by decide +kernel) (pa_cons (pv 1) (pa_cons (pe_bltn (v := .ty "str") (by rfl) T.b_str (by decide +kernel) rfl) pa_nil)))))).pt (pss_one (ps_ret (pe_and (pe_cmpR op_eq (pv 0) (pv 1) (nomark _)) (pe_one (pe_cmpR op_eq (pe_callB call_isi (by rfl) T.b_isinstance (by decide +kernel) (pa_cons (pv 0) (pa_cons (pe_bltn (v := .ty "str") (by rfl) T.b_str (by decide +kernel) rfl) pa_nil))) (pe_callB call_isi (by rfl) T.b_isinstance (by decide +kernel) (pa_cons (pv 1) (pa_cons (pe_bltn (v := .ty "str") (by rfl) T.b_str (by decide +kernel) rfl) pa_nil))) (nomark _)))))) pss_nil)
      (pss_one (ps_ret (pe_and (pe_callB call_isi (by rfl) T.b_isinstance (by decide +kernel) (pa_cons (pv 0) (pa_cons (pe_bltn (v := .ty "int") (by rfl) T.b_int (by decide +kernel) rfl) pa_nil))) (pe_and (pe_cmpR op_eq (pe_callB call_isi (by rfl) T.b_isinstance (by decide +kernel) (pa_cons (pv 0) (pa_cons (pe_bltn (v := .ty "bool") (by rfl) T.b_bool (by decide +kernel) rfl) pa_nil))) (pe_callB call_isi (by rfl) T.b_isinstance (by decide +kernel) (pa_cons (pv 1) (pa_cons (pe_bltn (v := .ty "bool") (by rfl) T.b_bool (by decide +kernel) rfl) pa_nil))) (nomark _)) (pe_one (pe_cmpR op_eq (pv 0) (pv 1) (nomark _)))))))))), ?_⟩
  rcases hA with ⟨i, rfl, rfl⟩ | ⟨z, rfl, rfl⟩ | ⟨a, b, xs, ys, rfl, rfl, hab, hlen, h1000, hall⟩
  · -- an int
    refine q_when (b := false) (et_B (ev_isi (ev_var rfl) ty_int (by decide +kernel))) (fun hb => nomatch hb) (fun _ H1 e1 => ?_)
    refine q_when (b := false) (et_isiT (b1 := false) (b2 := false) (ev_var rfl) ty_int (by decide +kernel) (by decide +kernel)) (fun hb => nomatch hb) (fun _ H2 e2 => ?_)
    refine q_when (b := false) (et_or (a := false) (et_test (ev_op (ev_var rfl) ev_c rv_isN)) fun _ => et_B (ev_isi (b := false) (ev_var rfl) ty_int (by decide +kernel))) (fun hb => nomatch hb) (fun _ H3 e3 => ?_)
    refine s_ret (ev_is (ev_andV (ev_isi (b := true) (ev_var rfl) ty_int (by decide +kernel)) fun _ => ev_andV (ev_op (ev_isi (b := false) (ev_var rfl) ty_int (by decide +kernel)) (ev_isi (b := false) (ev_var rfl) ty_int (by decide +kernel)) rv_eqb) fun _ => ev_op (ev_var rfl) (ev_var rfl) rv_eqi) ?_) fun H4 e4 => q H4 (((e1.trans e2).trans e3).trans e4)
    simp
  · -- a text
    refine q_when (b := false) (et_B (ev_isi (ev_var rfl) ty_str (by decide +kernel))) (fun hb => nomatch hb) (fun _ H1 e1 => ?_)
    refine q_when (b := false) (et_isiT (b1 := false) (b2 := false) (ev_var rfl) ty_str (by decide +kernel) (by decide +kernel)) (fun hb => nomatch hb) (fun _ H2 e2 => ?_)
    refine q_when (b := true) (et_or (a := false) (et_test (ev_op (ev_var rfl) ev_c rv_isN)) fun _ => et_B (ev_isi (b := true) (ev_var rfl) ty_str (by decide +kernel))) (fun _ H3 e3 => ?_) (fun hb => nomatch hb)
    refine s_ret (ev_is (ev_andV (ev_op (ev_var rfl) (ev_var rfl) rv_eqs) fun _ => ev_op (ev_isi (b := true) (ev_var rfl) ty_str (by decide +kernel)) (ev_isi (b := true) (ev_var rfl) ty_str (by decide +kernel)) rv_eqb) ?_) fun H4 e4 => q H4 (((e1.trans e2).trans e3).trans e4)
    simp
  · -- a sequence
    have rest : ∀ {H1 : Hp}, Ex H H1 → EvL (tLc (iRng1 (tCons (tCB (rLenS K) (tCons (tVar 1) tNil)) tNil)) (gName 2) (tNot (tB (tK (spAlike n) E0 (tCons (tOp (rIxA K) (tVar 0) (tVar 2)) (tCons (tOp (rIxA K) (tVar 1) (tVar 2)) tNil))))) (tVar 2) [2]) [some (.ref a), some (.ref b), none] H1 [] := fun {H1} e1 => by
      have hs : ∀ {H2 : Hp}, Ex H1 H2 → (SqL K H2 a xs ∨ SqT K H2 a xs) ∧ (SqL K H2 b ys ∨ SqT K H2 b ys) := fun e2 => by
        rcases hab with h | h
        · exact ⟨.inr (st_of ((e1.trans e2) _ _ h.1)), .inr (st_of ((e1.trans e2) _ _ h.2))⟩
        · exact ⟨.inl (sq_of ((e1.trans e2) _ _ h.1)), .inl (sq_of ((e1.trans e2) _ _ h.2))⟩
      have := el_lcR1 (H := H1) (σ := [some (.ref a), some (.ref b), none]) (j := 2) (vs := [2]) (n := (ys.length : Nat)) (ta := tCons (tCB (rLenS K) (tCons (tVar 1) tNil)) tNil) (te := tVar 2) (t := tNot (tB (tK (spAlike n) E0 (tCons (tOp (rIxA K) (tVar 0) (tVar 2)) (tCons (tOp (rIxA K) (tVar 1) (tVar 2)) tNil))))) (fun _ => false) (fun i => .int (i : Nat))
        (ea_cons (fun H2 e2 Q q => ⟨_, rfl, b, ys, rfl, (hs e2).2, q H2 (Ex.refl H2)⟩) ea_nil) (by omega) (fun x => rfl) (fun i H2 e2 hi => ?_) (fun i H2 e2 hi hf => nomatch hf)
      · rw [show Evl.given ((ys.length : Nat) : Int).toNat (fun _ => false) (fun i => V.int (i : Nat)) = [] from by
          unfold Evl.given
          rw [List.filter_eq_nil_iff.mpr fun _ _ => Bool.false_ne_true]
          rfl] at this
        exact this
      · have hi2 : i < ys.length := by omega
        have hx : xs[i]? = some (xs[i]'(by omega)) := List.getElem?_eq_getElem (by omega)
        have hy : ys[i]? = some ys[i] := List.getElem?_eq_getElem hi2
        refine et_is (et_not (et_B (ev_k (z := .bl true) (ea_cons (ev_op (ev_var rfl) (ev_var rfl) (fun H3 e3 Q q => ⟨a, xs, (i : Int), _, rfl, rfl, (hs (e2.trans e3)).1, atI_nat hx, q H3 (Ex.refl H3)⟩)) (ea_cons (ev_op (ev_var rfl) (ev_var rfl) (fun H3 e3 Q q => ⟨b, ys, (i : Int), _, rfl, rfl, (hs (e2.trans e3)).2, atI_nat hy, q H3 (Ex.refl H3)⟩)) ea_nil)) fun H3 e3 Q q _ => ⟨_, _, rfl, (hall i _ _ hx hy).mono ((e1.trans e2).trans e3), q⟩))) rfl
    have hln : ∀ {H1 : Hp} {i : Nat} {c : Addr} {zs : List V}, Ex H H1 → ([some (.ref a), some (.ref b), none] : L2.St)[i]? = some (some (.ref c)) → (∀ {H2 : Hp}, Ex H H2 → SqL K H2 c zs ∨ SqT K H2 c zs) → Ev (tCB (rLenS K) (tCons (tVar i) tNil)) [some (.ref a), some (.ref b), none] H1 (.int (zs.length : Nat)) := fun {H1 i c zs} e1 hi hz => ev_cb (ea_cons (ev_var hi) ea_nil) fun H2 e2 Q q => ⟨_, zs, rfl, hz (e1.trans e2), q H2 (Ex.refl H2)⟩
    rcases hab with ⟨hta, htb⟩ | ⟨hta, htb⟩
    · refine q_when (b := false) (et_B (ev_isi (ev_var rfl) (ty_tup htb) (by decide +kernel))) (fun hb => nomatch hb) (fun _ H1 e1 => ?_)
      refine q_when (b := true) (et_isiT (b1 := true) (b2 := false) (ev_var rfl) (ty_tup (e1 _ _ htb)) (by decide +kernel) (by decide +kernel)) (fun _ H2 e2 => ?_) (fun hb => nomatch hb)
      have e12 := e1.trans e2
      refine q_when (b := false) (et_or (et_not (et_isiT (b1 := true) (b2 := false) (ev_var rfl) (ty_tup (e12 _ _ hta)) (by decide +kernel) (by decide +kernel))) fun _ => et_test (ev_op (ev_isi (b := false) (ev_var rfl) (ty_tup (e12 _ _ hta)) (by decide +kernel)) (ev_isi (b := false) (ev_var rfl) (ty_tup (e12 _ _ htb)) (by decide +kernel)) rv_neb)) (fun hb => nomatch hb) (fun _ H3 e3 => ?_)
      have e13 := e12.trans e3
      refine q_when (b := false) (et_is (et_test (ev_op (hln e13 rfl fun e => .inr (st_of (e _ _ hta))) (hln e13 rfl fun e => .inr (st_of (e _ _ htb))) rv_nei)) (by rw [hlen]; simp)) (fun hb => nomatch hb) (fun _ H4 e4 => ?_)
      have e14 := e13.trans e4
      exact s_ret (ev_eqNE (rest e14) el_nil) fun H5 e5 => q H5 (e14.trans e5)
    · refine q_when (b := false) (et_B (ev_isi (ev_var rfl) (ty_lst htb) (by decide +kernel))) (fun hb => nomatch hb) (fun _ H1 e1 => ?_)
      refine q_when (b := true) (et_isiT (b1 := false) (b2 := true) (ev_var rfl) (ty_lst (e1 _ _ htb)) (by decide +kernel) (by decide +kernel)) (fun _ H2 e2 => ?_) (fun hb => nomatch hb)
      have e12 := e1.trans e2
      refine q_when (b := false) (et_or (et_not (et_isiT (b1 := false) (b2 := true) (ev_var rfl) (ty_lst (e12 _ _ hta)) (by decide +kernel) (by decide +kernel))) fun _ => et_test (ev_op (ev_isi (b := true) (ev_var rfl) (ty_lst (e12 _ _ hta)) (by decide +kernel)) (ev_isi (b := true) (ev_var rfl) (ty_lst (e12 _ _ htb)) (by decide +kernel)) rv_neb)) (fun hb => nomatch hb) (fun _ H3 e3 => ?_)
      have e13 := e12.trans e3
      refine q_when (b := false) (et_is (et_test (ev_op (hln e13 rfl fun e => .inl (sq_of (e _ _ hta))) (hln e13 rfl fun e => .inl (sq_of (e _ _ htb))) rv_nei)) (by rw [hlen]; simp)) (fun hb => nomatch hb) (fun _ H4 e4 => ?_)
      have e14 := e13.trans e4
      exact s_ret (ev_eqNE (rest e14) el_nil) fun H5 e5 => q H5 (e14.trans e5)
theorem ok_l_alike (T : TX P K mg) : ∀ n : Nat, OkF P w K mg base CX0 (1 + n) (ga K "_law_alike") ["_law_found", "_law_due"] (spAlike n)
  | 0 => OkF.vac T.d_l_alike (fun _ _ _ _ _ _ us hl => match us, hl with | [_, _], _ => rfl) fun vs H Q E h => by
    obtain ⟨x, y, _, h1, _⟩ := h
    exact h1
  | n + 1 => ok_l_alike_step T (ok_l_alike T n)
end
end K56
set_option Elab.async false
set_option linter.all false
set_option maxRecDepth 100000
set_option maxHeartbeats 4000000
/-! K56, part D16: what the program's reader tells. -/
namespace K56
open PySem PySem.W PyProof.Rows L2 Evl He
theorem bookGo_good {fs : List Str} : ∀ (r : List (List Str)) (k : Nat) (ks ks' : List KR) (ru : Str), KGood fs ks → bookGo fs r k ks = .inr (ks', ru) → KGood fs ks'
  | [], k, ks, ks', ru, G, h => by cases h
  | ws :: r, k, ks, ks', ru, G, h => by
    unfold bookGo at h
    split at h
    · split at h
      · cases h
      · split at h
        · cases h
        · split at h
          · cases h
          · cases h
            exact G
    · split at h
      · cases h
      · rename_i hc
        cases h2 : rdRule fs (ks.map (·.nm)) (deepest ks) ws with
        | inl e =>
          rw [h2] at h
          cases h
        | inr kr =>
          rw [h2] at h
          refine bookGo_good r (k + 1) (ks ++ [kr]) ks' ru (rrOf_ok (ws := ws) G ?_) h
          unfold rrOf
          rw [if_neg hc]
          exact h2
theorem rdB_good {rws : List (List Str)} {fs : List Str} {ks : List KR} {ru : Str} (h : rdB rws = .inr (fs, ks, ru)) : FactsOK fs ∧ KGood fs ks := by
  unfold rdB at h
  cases h1 : rdFacts ((rws[0]?).getD []) with
  | inl e =>
    rw [h1] at h
    cases h
  | inr fs' =>
    rw [h1] at h
    replace h : (match bookGo fs' (rws.drop 1) 1 [] with
      | .inl x => Sum.inl x
      | .inr (ks, ru) => Sum.inr (fs', ks, ru)) = .inr (fs, ks, ru) := h
    cases h2 : bookGo fs' (rws.drop 1) 1 [] with
    | inl x =>
      rw [h2] at h
      cases h
    | inr x =>
      obtain ⟨ks', ru'⟩ := x
      rw [h2] at h
      cases h
      exact ⟨(facts_ok h1).1, bookGo_good _ _ _ _ _ (kgood_nil _) h2⟩
theorem nest_sz {fs : List Str} {ks : List KR} (G : KGood fs ks) (n d : Nat) : (nest n d ks).sz ≤ 60 := by
  rw [Fo.sz_all]
  have := (nest_sub n d ks).length_le
  have := G.len
  omega
/-! ### the same data is alike -/
def AlkA (n : Nat) (H : Hp) (xs ys : List V) : Prop := xs.length = ys.length ∧ ∀ (i : Nat) u v, xs[i]? = some u → ys[i]? = some v → Alk n H u v
theorem AlkA.nil {n : Nat} {H : Hp} : AlkA n H [] [] := ⟨rfl, fun i u v h => by simp at h⟩
theorem AlkA.cons {n : Nat} {H : Hp} {x y : V} {xs ys : List V} (h : Alk n H x y) (r : AlkA n H xs ys) : AlkA n H (x :: xs) (y :: ys) := by
  refine ⟨by rw [List.length_cons, List.length_cons, r.1], fun i u v hu hv => ?_⟩
  match i with
  | 0 =>
    cases hu
    cases hv
    exact h
  | i + 1 => exact r.2 i u v hu hv
theorem AlkA.up {n m : Nat} {H : Hp} {xs ys : List V} (h : AlkA n H xs ys) (l : n ≤ m) : AlkA m H xs ys := ⟨h.1, fun i u v a b => (h.2 i u v a b).up l⟩
theorem alk_tup {n : Nat} {H : Hp} {a b : Addr} {xs ys : List V} (ha : H a = some (.tup xs)) (hb : H b = some (.tup ys)) (h : AlkA n H xs ys) (hl : ys.length ≤ 1000) : Alk (n + 1) H (.ref a) (.ref b) :=
  .inr (.inr ⟨a, b, xs, ys, rfl, rfl, .inl ⟨ha, hb⟩, h.1, hl, h.2⟩)
theorem alk_lst {n : Nat} {H : Hp} {a b : Addr} {xs ys : List V} (ha : H a = some (.lst xs)) (hb : H b = some (.lst ys)) (h : AlkA n H xs ys) (hl : ys.length ≤ 1000) : Alk (n + 1) H (.ref a) (.ref b) :=
  .inr (.inr ⟨a, b, xs, ys, rfl, rfl, .inr ⟨ha, hb⟩, h.1, hl, h.2⟩)
theorem alk_str {n : Nat} {H : Hp} {x y : V} {z : Str} (h1 : Dt H x (.str z)) (h2 : Dt H y (.str z)) : Alk (n + 1) H x y := by
  cases h1
  cases h2
  exact .inr (.inl ⟨z, rfl, rfl⟩)
theorem alk_int {n : Nat} {H : Hp} {x y : V} {i : Int} (h1 : Dt H x (.int i)) (h2 : Dt H y (.int i)) : Alk (n + 1) H x y := by
  cases h1
  cases h2
  exact .inl ⟨i, rfl, rfl⟩
theorem alk_strs {n : Nat} {H : Hp} : ∀ {ws : List Str} {xs ys : List V}, DtAll H xs (ws.map .str) → DtAll H ys (ws.map .str) → AlkA (n + 1) H xs ys
  | [], _, _, h1, h2 => by
    cases h1
    cases h2
    exact .nil
  | z :: r, _, _, h1, h2 => by
    cases h1 with
    | cons a1 r1 =>
      cases h2 with
      | cons a2 r2 => exact .cons (alk_str a1 a2) (alk_strs r1 r2)
theorem alk_tupS {n : Nat} {H : Hp} {ws : List Str} {x y : V} (hl : ws.length ≤ 1000) (h1 : Dt H x (tupS ws)) (h2 : Dt H y (tupS ws)) : Alk (n + 2) H x y := by
  cases h1 with
  | tup a1 r1 =>
    cases h2 with
    | tup a2 r2 =>
      refine alk_tup a1 a2 (alk_strs r1 r2) ?_
      rw [r2.len, List.length_map]
      exact hl
theorem alk_fo {H : Hp} : ∀ {fo : Fo} {xs ys : List V}, fo.sz ≤ 60 → (∀ k ∈ fo.all, k.ho.length ≤ 8 ∧ k.fa.length ≤ 8) → DtAll H xs fo.data → DtAll H ys fo.data → AlkA (2 * fo.ht + 2) H xs ys
  | .nil, _, _, _, _, h1, h2 => by
    cases h1
    cases h2
    exact .nil
  | .cons k i r, _, _, hs, hk, h1, h2 => by
    have hs2 : 1 + i.sz + r.sz ≤ 60 := hs
    have hk0 := hk k List.mem_cons_self
    have hki : ∀ k ∈ i.all, k.ho.length ≤ 8 ∧ k.fa.length ≤ 8 := fun z hz => hk z (List.mem_cons_of_mem _ (List.mem_append.mpr (.inl hz)))
    have hkr : ∀ k ∈ r.all, k.ho.length ≤ 8 ∧ k.fa.length ≤ 8 := fun z hz => hk z (List.mem_cons_of_mem _ (List.mem_append.mpr (.inr hz)))
    have hm : (Fo.cons k i r).ht = max (1 + i.ht) r.ht := rfl
    cases h1 with
    | cons a1 r1 =>
      cases h2 with
      | cons a2 r2 =>
        refine .cons ?_ ((alk_fo (by omega) hkr r1 r2).up (by omega))
        cases a1 with
        | tup b1 c1 =>
          cases a2 with
          | tup b2 c2 =>
            refine (alk_tup (n := 2 * i.ht + 3) b1 b2 ?_ (by rw [c2.len]; show 5 ≤ 1000; omega)).up (by omega)
            cases c1 with
            | cons d1 c1 => cases c1 with
              | cons d2 c1 => cases c1 with
                | cons d3 c1 => cases c1 with
                  | cons d4 c1 => cases c1 with
                    | cons d5 c1 =>
                      cases c1
                      cases c2 with
                      | cons f1 c2 => cases c2 with
                        | cons f2 c2 => cases c2 with
                          | cons f3 c2 => cases c2 with
                            | cons f4 c2 => cases c2 with
                              | cons f5 c2 =>
                                cases c2
                                refine .cons (alk_str d1 f1) (.cons ((alk_tupS (n := 0) (by omega) d2 f2).up (by omega)) (.cons ((alk_tupS (n := 0) (by omega) d3 f3).up (by omega)) (.cons (alk_str d4 f4) (.cons ?_ .nil))))
                                cases d5 with
                                | tup g1 s1 =>
                                  cases f5 with
                                  | tup g2 s2 =>
                                    refine (alk_tup g1 g2 (alk_fo (by omega) hki s1 s2) ?_).up (by omega)
                                    rw [s2.len]
                                    have := i.sz_len
                                    omega
theorem alk_res {H : Hp} {rws : List (List Str)} {x y : V} (h1 : Dt H x (resD (rdB rws))) (h2 : Dt H y (resD (rdB rws))) : Alk 20 H x y := by
  cases hr : rdB rws with
  | inl z =>
    obtain ⟨k, e⟩ := z
    rw [hr] at h1 h2
    cases h1 with
    | tup b1 c1 =>
      cases h2 with
      | tup b2 c2 =>
        refine (alk_tup (n := 1) b1 b2 ?_ (by rw [c2.len]; show 2 ≤ 1000; omega)).up (by omega)
        cases c1 with
        | cons d1 c1 => cases c1 with
          | cons d2 c1 =>
            cases c1
            cases c2 with
            | cons f1 c2 => cases c2 with
              | cons f2 c2 =>
                cases c2
                exact .cons (alk_int d1 f1) (.cons (alk_int d2 f2) .nil)
  | inr z =>
    obtain ⟨fs, ks, ru⟩ := z
    obtain ⟨FO, G⟩ := rdB_good hr
    rw [hr] at h1 h2
    cases h1 with
    | tup b1 c1 =>
      cases h2 with
      | tup b2 c2 =>
        have hht := nest_ht 7 0 ks
        have hsz := nest_sz G 7 0
        refine (alk_tup (n := 17) b1 b2 ?_ (by rw [c2.len]; show 3 ≤ 1000; omega)).up (by omega)
        cases c1 with
        | cons d1 c1 => cases c1 with
          | cons d2 c1 => cases c1 with
            | cons d3 c1 =>
              cases c1
              cases c2 with
              | cons f1 c2 => cases c2 with
                | cons f2 c2 => cases c2 with
                  | cons f3 c2 =>
                    cases c2
                    refine .cons ((alk_tupS (n := 0) (by have := FO.len; omega) d1 f1).up (by omega)) (.cons ?_ (.cons (alk_str d3 f3) .nil))
                    cases d2 with
                    | tup g1 s1 =>
                      cases f2 with
                      | tup g2 s2 =>
                        refine (alk_tup g1 g2 (alk_fo hsz (fun k hk => ?_) s1 s2) ?_).up (by omega)
                        · have := (G.one k ((nest_sub 7 0 ks).subset hk)).2.2.2.2.2
                          omega
                        · rw [s2.len]
                          have := (nest 7 0 ks).sz_len
                          omega
section
variable {P : Program} {w : World} {K : Frag} {mg : Str → Option Value} {base : Heap}
def spSeen (K : Frag) : Sp := fun vs H Q _ => ∃ (b : Addr) (fs : List Str) (fo : Fo) (ru : Str), vs = [.ref b] ∧ BookAt K H b fs fo ru ∧ fo.ht < 8 ∧ fo.sz ≤ 60 ∧ ∀ v H', Ex H H' → Dt H' v (.tuple [tupS fs, .tuple fo.data, .str ru]) → Q v H'
theorem sc_l_seen : FnScope ["_law_book"] ["_law_book"] (defScope sSeen) := ⟨rfl, rfl, rfl, by decide +kernel, rfl, by decide +kernel, by decide +kernel⟩
theorem ok_l_seen (T : TX P K mg) : OkF P w K mg base CX0 (11 + 1) (ga K "_law_seen") ["_law_book"] (spSeen K) := by
  refine OkF.mk0 T.d_l_seen sc_l_seen (fun _ _ _ _ _ _ us hl => match us, hl with | [_], _ => rfl) (fun vs H Q E h => ?_) (fun cdv A outs s H vs Q E hr h => ?_)
  · obtain ⟨_, _, _, _, rfl, _⟩ := h; rfl
  obtain ⟨b, fs, fo, ru, rfl, ⟨fa, oa, xs, rl, ⟨dx, hB⟩, hF, hO, hR⟩, hht, hsz, q⟩ := h
  refine ⟨_, (pss_one (ps_ret (pe_tup (pa_cons (pe_p T.c_Book T.p_Book_facts (ok_Book_facts T) hr (by omega) (E := E0) passN (pv 0)) (pa_cons (pe_c (ok_l_told T 8) hr (by omega) T.g_l_told (E := E0) passN (pa_cons (pe_p T.c_Book T.p_Book_rules (ok_Book_rules T) hr (by omega) (E := E0) passN (pv 0)) pa_nil)) (pa_cons (pe_p T.c_Book T.p_Book_ruling (ok_Book_ruling T) hr (by omega) (E := E0) passN (pv 0)) pa_nil)))))), ?_⟩
  refine op_ret ?_
  refine go_pf (ev_var rfl) hB rfl fun H1 e1 => ?_
  refine go_k (ea_cons (ev_pf (ev_var rfl) (e1 _ _ hB) rfl) ea_nil) fun H2 e2 => ?_
  have e12 := e1.trans e2
  refine ⟨oa, xs, fo, rfl, e12 _ _ hO, hR.mono e12, hht, hsz, fun v H3 e3 hv => ?_⟩
  refine go_pf (ev_var rfl) ((e12.trans e3) _ _ hB) rfl fun H4 e4 => ⟨by show 3 ≤ sizeLine; decide, fun p hp => ?_⟩
  have e34 := e4.trans (Ex.new (o := .tup [.ref fa, v, .str ru]) hp)
  exact q _ _ ((e12.trans e3).trans e34) (.tup upd_same (.cons (dt_tupS (((e12.trans e3).trans e34) _ _ hF)) (.cons (hv.mono e34) (.cons (.str _) .nil))))
def spParsed : Sp := fun vs H Q _ => ∃ t : Str, vs = [.str t] ∧ t.length ≤ 20000 ∧ ∀ v H', Ex H H' → Dt H' v (rdText t) → Q v H'
theorem sc_l_parsed : FnScope ["_law_text_here", "e"] ["_law_text_here"] (defScope sParsed) := ⟨rfl, rfl, rfl, by decide +kernel, rfl, by decide +kernel, by decide +kernel⟩
theorem ok_l_parsed (T : TX P K mg) : OkF P w K mg base CX0 (15 + 1) (ga K "_law_parsed") ["_law_text_here"] spParsed := by
  refine OkF.mk0 T.d_l_parsed sc_l_parsed (fun _ _ _ _ _ _ us hl => match us, hl with | [_], _ => rfl) (fun vs H Q E h => ?_) (fun cdv A outs s H vs Q E hr h => ?_)
  · obtain ⟨_, rfl, _⟩ := h; rfl
  obtain ⟨t, rfl, ht, q⟩ := h
  refine ⟨_, pss_one (ps_try_as (i := 1) (tb := fun W => tRet (tK (spSeen K) E0 (tCons (tCallS (spParse K) (WE W) (tCons (tVar 0) tNil)) tNil))) (ts := fun a cls d => tRet (tIf (tB (tCB (fun xs H Q => cls = .ref (iC K) ∧ (∃ dd fs, d = some dd ∧ H dd = some (.xd fs)) ∧ rIsIT (iC K) a xs H Q) (tCons (tVar 1) (tCons (tC (.ref (iC K))) tNil)))) (tTup (tCons (tXf a cls d (iC K) "row" (tVar 1)) (tCons (tXf a cls d (iC K) "word" (tVar 1)) tNil))) (tC (.str "another")))) (Wout := fun _ _ _ _ => False) rfl rfl sc_l_parsed.nd rfl rfl ⟨rfl, by decide, Or.inl T.g_CourtError⟩ takes0
    (fun W pn xe tk _ => pss_one (ps_ret (by exact pe_c (ok_l_seen T) hr (by omega) T.g_l_seen (E := E0) passN (by exact pa_cons (by exact pe_cS (ok_parse_book T) hr (by omega) T.g_parse_book (fun σ => passAt tk σ) (by exact pa_cons (pv 0) pa_nil)) pa_nil))))
    (fun a oe cls d pn hz hf => pss_one (ps_ret (by exact pe_ifExp (pt_val (pe_callB (call_isIT T.isit hz hf) (by rfl) T.b_isinstance (by decide +kernel) (pa_cons (pv 1) (pa_cons (pe_glob (v := .ref (iC K)) (by rfl) T.g_InvalidText rfl) pa_nil)))) (pe_tup (pa_cons (pe_xf T.xf T.it.noR hz hf (pv 1)) (pa_cons (pe_xf T.xf T.it.noW hz hf (pv 1)) pa_nil))) pe_str)))), ?_⟩
  refine op_ret (op_k (op_cons (EvA.v (ta := tCons (tVar 0) tNil) (ea_cons (ev_var rfl) ea_nil) fun H1 e1 => ?_)))
  refine ⟨t, rfl, ht, fun fs ks ru h b H2 e2 hB => ?_, fun k e h => ?_⟩
  · obtain ⟨FO, G⟩ := rdB_good h
    have hht := nest_ht 7 0 ks
    refine ⟨b, fs, nest 7 0 ks, ru, rfl, hB, by omega, nest_sz G 7 0, fun v H3 e3 hv => q v H3 ((e1.trans e2).trans e3) ?_⟩
    unfold rdText
    rw [h]
    exact hv
  · intro d H2 e2 hd
    refine ⟨true, T.exm, fun _ a ha => ?_, fun z => nomatch z⟩
    refine op_ret ?_
    refine ⟨_, rfl, rfl, ⟨d, _, rfl, hd⟩, rfl, true, rfl, ?_⟩
    refine ⟨_, rfl, rfl, rfl, d, _, _, rfl, hd, rfl, _, rfl, rfl, rfl, d, _, _, rfl, hd, rfl, by show 2 ≤ sizeLine; decide, fun p hp => ?_⟩
    refine q _ _ ((e1.trans e2).trans (Ex.new hp)) ?_
    unfold rdText
    rw [h]
    exact dt_err upd_same
end
end K56
set_option Elab.async false
set_option linter.all false
set_option maxRecDepth 100000
set_option maxHeartbeats 4000000
/-! K56, part D17: the state that draws. -/
namespace K56
open PySem PySem.W PyProof.Rows L2 Evl He
/-- the drawing state at h, its cells at c -/
structure Dw (H : Hp) (h c : Addr) : Prop where
  st : ∃ s i, H h = some (.lst [.int s, .ref c, .int i]) ∧ 0 ≤ s ∧ s < 2147483647 ∧ 0 ≤ i
  ce : ∃ cs : List Int, H c = some (.lst (cs.map V.int)) ∧ cs.length ≤ 63
theorem Dw.ne {H : Hp} {h c : Addr} (D : Dw H h c) : c ≠ h := fun e => by
  obtain ⟨s, i, h1, _⟩ := D.st
  obtain ⟨cs, h2, _⟩ := D.ce
  rw [e, h1] at h2
  have h3 := Option.some.inj h2
  injection h3 with h4
  match cs, h4 with
  | [_, _, _], h4 => simp at h4
theorem Dw.mono {H H' : Hp} {h c : Addr} (D : Dw H h c) (e : Ex H H') : Dw H' h c := by
  obtain ⟨s, i, h1, h2⟩ := D.st
  obtain ⟨cs, h3, h4⟩ := D.ce
  exact ⟨⟨s, i, e _ _ h1, h2⟩, ⟨cs, e _ _ h3, h4⟩⟩
/-- all but what stands at the places of M stays -/
def Xc (M : List Addr) (H H' : Hp) : Prop := ∀ a o, a ∉ M → H a = some o → H' a = some o
theorem Xc.of {M : List Addr} {H H' : Hp} (e : Ex H H') : Xc M H H' := fun a o _ h => e a o h
theorem Xc.trans {M : List Addr} {H H1 H2 : Hp} (a : Xc M H H1) (b : Xc M H1 H2) : Xc M H H2 := fun x o n h => b x o n (a x o n h)
theorem Xc.mut {M : List Addr} {H H' : Hp} {l : Addr} {o : HO} (a : Xc M H H') (h : l ∈ M ∨ H l = none) : Xc M H (upd H' l o) := fun x u n hx => by
  rw [upd_ne]
  · exact a x u n hx
  · intro e
    rcases h with h | h
    · exact n (e ▸ h)
    · rw [e, h] at hx
      cases hx
theorem Xc.more {M N : List Addr} {H H' : Hp} (a : Xc M H H') (s : ∀ x ∈ M, x ∈ N) : Xc N H H' := fun x o n h => a x o (fun m => n (s x m)) h
/-- where M's are lists, tuples stay -/
theorem Xc.tup {M : List Addr} {H H' : Hp} (a : Xc M H H') (hM : ∀ m ∈ M, ∃ xs, H m = some (.lst xs)) {p : Addr} {xs : List V} (h : H p = some (.tup xs)) : H' p = some (.tup xs) := a p _ (fun m => by
  obtain ⟨ys, z⟩ := hM p m
  rw [h] at z
  cases z) h
theorem Dw.lst {H : Hp} {h c : Addr} (D : Dw H h c) : ∀ m ∈ [h, c], ∃ xs, H m = some (.lst xs) := fun m hm => by
  obtain ⟨s, i, h1, _⟩ := D.st
  obtain ⟨cs, h3, _⟩ := D.ce
  rcases List.mem_cons.mp hm with e | e
  · exact ⟨_, e ▸ h1⟩
  · rcases List.mem_cons.mp e with e | e
    · exact ⟨_, e ▸ h3⟩
    · cases e
theorem Dw.upd {H : Hp} {h c l : Addr} {o : HO} (D : Dw H h c) (n1 : l ≠ h) (n2 : l ≠ c) : Dw (upd H l o) h c := by
  obtain ⟨s, i, h1, h2⟩ := D.st
  obtain ⟨cs, h3, h4⟩ := D.ce
  exact ⟨⟨s, i, by rw [upd_ne n1.symm]; exact h1, h2⟩, ⟨cs, by rw [upd_ne n2.symm]; exact h3, h4⟩⟩
section
variable {P : Program} {w : World} {K : Frag} {mg : Str → Option Value} {base : Heap}
theorem rc_int {i : Int} {H : Hp} : RC (fun xs H Q => (∃ i, xs = [.int i] ∧ Q (.int i) H) ∨ ∃ k, xs = [.bl k] ∧ Q (.int (if k then 1 else 0)) H) [.int i] H (.int i) := fun H1 _ _ q => .inl ⟨i, rfl, q H1 (Ex.refl H1)⟩
theorem rc_intB {k : Bool} {H : Hp} : RC (fun xs H Q => (∃ i, xs = [.int i] ∧ Q (.int i) H) ∨ ∃ k, xs = [.bl k] ∧ Q (.int (if k then 1 else 0)) H) [.bl k] H (.int (if k then 1 else 0)) := fun H1 _ _ q => .inr ⟨k, rfl, q H1 (Ex.refl H1)⟩
theorem rv_mod {i j : Int} {H : Hp} (h : 0 < j) : RV (rI (fun _ j => 0 < j) fun i j => .int (i % j)) (.int i) (.int j) H (.int (i % j)) := rv_I h
theorem rv_div {i j : Int} {H : Hp} (h : 0 < j) (h2 : j < 1073741824) : RV (rI CDiv fun i j => .int (i / j)) (.int i) (.int j) H (.int (i / j)) := rv_I ⟨h, h2⟩
theorem rv_mulR {i j : Int} {H : Hp} (h : -(2 ^ 64) < j ∧ j < 2 ^ 64) : RV (rI CMul fun i j => .int (i * j)) (.int i) (.int j) H (.int (i * j)) := rv_I (.inr h)
theorem ev_int {ta : TE} {i : Int} {σ : L2.St} {H : Hp} (h : Ev ta σ H (.int i)) : Ev (tCB (fun xs H Q => (∃ i, xs = [.int i] ∧ Q (.int i) H) ∨ ∃ k, xs = [.bl k] ∧ Q (.int (if k then 1 else 0)) H) (tCons ta tNil)) σ H (.int i) := ev_cb (ea_cons h ea_nil) rc_int
def spMix (K : Frag) : Sp := fun vs H Q _ => ∃ (a : Addr) (ns : List Int) (seed : Int), vs = [.ref a, .int seed] ∧ SqL K H a (ns.map V.int) ∧ ns.length ≤ 63 ∧ 0 ≤ seed ∧ seed < 2147483647 ∧ ∀ h c H', Ex H H' → Dw H' h c → Q (.ref h) H'
theorem sc_l_mix : FnScope ["_law_script", "_law_seed", "_law_state", "_law_cell"] ["_law_script", "_law_seed"] (defScope sMix) := ⟨rfl, rfl, rfl, by decide +kernel, rfl, by decide +kernel, by decide +kernel⟩
theorem ok_l_mix (T : TX P K mg) : OkF P w K mg base CX0 (0 + 1) (ga K "_law_mix") ["_law_script", "_law_seed"] (spMix K) := by
  refine OkF.mk0 T.d_l_mix sc_l_mix (fun _ _ _ _ _ _ us hl => match us, hl with | [_, _], _ => rfl) (fun vs H Q E h => ?_) (fun cdv A outs s H vs Q E hr h => ?_)
  · obtain ⟨_, _, _, rfl, _⟩ := h; rfl
  obtain ⟨a, ns, seed, rfl, hS, h63, hs0, hs1, q⟩ := h
  refine ⟨_, (pss_cons (ps_set (i := 2) sc_l_mix.nd rfl (Or.inl rfl) (pv 1))
      (pss_cons (ps_for PassesOwn.never rfl (pi_list (pv 0)) (pg_name (i := 3) sc_l_mix.nd rfl (Or.inl rfl)) (pss_one (ps_set (i := 2) sc_l_mix.nd rfl (Or.inl rfl) (pe_op op_mod (pe_callTy call_int1 (by rfl) T.b_int (by decide +kernel) (pa_cons (pe_op op_add (pe_op op_add (pe_op op_mul (pv 2) pe_int) (pe_op op_mod (pe_callTy call_int1 (by rfl) T.b_int (by decide +kernel) (pa_cons (pv 3) pa_nil)) pe_int)) pe_int) pa_nil)) pe_int))))
      (pss_one (ps_ret (pe_lst (pa_cons (pv 2) (pa_cons (pe_callTy call_list_of (by rfl) T.b_list (by decide +kernel) (pa_cons (pv 0) pa_nil)) (pa_cons pe_int pa_nil)))))))), ?_⟩
  refine q_asg (ev_var rfl) fun H0 e0 => ?_
  refine q_forL (a := a) (xs := ns.map V.int) (ev_var rfl) (ex_l e0 hS) (fun i σ' H' => (∃ s x3, σ' = [some (.ref a), some (.int seed), some (.int s), x3] ∧ 0 ≤ s ∧ s < 2147483647) ∧ Ex H H') (fun H1 e1 => ⟨⟨seed, none, rfl, hs0, hs1⟩, e0.trans e1⟩) (fun i σ' H' _ p => ex_l p.2 hS) (fun i x σ' H' hx p => ?_) (fun σ' H' p => ?_)
  · obtain ⟨⟨s, x3, rfl, b0, b1⟩, a1⟩ := p
    rw [List.getElem?_map] at hx
    obtain ⟨k, hk, rfl⟩ : ∃ k, ns[i]? = some k ∧ x = .int k := by
      cases h : ns[i]? with
      | none =>
        rw [h] at hx
        cases hx
      | some k =>
        rw [h] at hx
        exact ⟨k, rfl, (Option.some.inj hx).symm⟩
    show tAsg _ (gName 2) _ _ _
    refine s_asg (ev_op (ev_int (ev_op (ev_op (ev_op (ev_var rfl) ev_c (rv_mulR (by decide))) (ev_op (ev_int (ev_var rfl)) ev_c (rv_mod (by decide))) rv_I0) ev_c rv_I0)) ev_c (rv_mod (by decide))) fun H1 e1 => ⟨⟨_, _, rfl, by omega, by omega⟩, a1.trans e1⟩
  · obtain ⟨⟨s, x3, rfl, b0, b1⟩, a1⟩ := p
    refine op_ret (op_cons ⟨_, rfl, op_cons ⟨_, rfl, a, _, rfl, .inl (ex_l a1 hS), fun c hc => ⟨by show 3 ≤ sizeLine; decide, fun h hh => ?_⟩⟩⟩)
    refine q h c _ (a1.trans ((Ex.new hc).trans (Ex.new hh))) ⟨⟨s, 0, upd_same, b0, b1, Int.le_refl 0⟩, ns, Ex.new hh _ _ upd_same, h63⟩
def spNext : Sp := fun vs H Q _ => ∃ (h c : Addr) (n : Int), vs = [.ref h, .int n] ∧ Dw H h c ∧ 0 < n ∧ n < 1000 ∧ ∀ r H', Xc [h, c] H H' → Dw H' h c → 0 ≤ r → r < n → Q (.int r) H'
theorem sc_l_next : FnScope ["_law_h", "_law_limit", "_law_cell"] ["_law_h", "_law_limit"] (defScope sNext) := ⟨rfl, rfl, rfl, by decide +kernel, rfl, by decide +kernel, by decide +kernel⟩
theorem ok_l_next (T : TX P K mg) : OkF P w K mg base CX0 (0 + 1) (ga K "_law_next") ["_law_h", "_law_limit"] spNext := by
  refine OkF.mk0 T.d_l_next sc_l_next (fun _ _ _ _ _ _ us hl => match us, hl with | [_, _], _ => rfl) (fun vs H Q E h => ?_) (fun cdv A outs s H vs Q E hr h => ?_)
  · obtain ⟨_, _, _, rfl, _⟩ := h; rfl
  obtain ⟨h, c, n, rfl, D, hn0, hn1, q⟩ := h
  refine ⟨_, (pss_cons (ps_set (i := 2) sc_l_next.nd rfl (Or.inl rfl) (pe_ix ix_list (pe_op op_cat (pe_ix ix_list (pv 0) pe_int (fun _ _ => rfl)) (pe_lst (pa_cons pe_int pa_nil))) (pe_op op_mod (pe_callTy call_int1 (by rfl) T.b_int (by decide +kernel) (pa_cons (pe_ix ix_list (pv 0) pe_int (fun _ _ => rfl)) pa_nil)) (pe_callB (call_max2 rfl) (by rfl) T.b_max (by decide +kernel) (pa_cons pe_int (pa_cons (pe_callB call_len_seq (by rfl) T.b_len PySem.boot_len (pa_cons (pe_ix ix_list (pv 0) pe_int (fun _ _ => rfl)) pa_nil)) pa_nil)))) (fun _ _ => rfl)))
      (pss_cons (ps_if (pt_cmpR op_ge (pv 2) (pe_op op_pow pe_int pe_int) (nomark _)) (pss_cons (ps_asg (pe_op op_fdiv (pv 2) (pv 1)) (pg_sub (pe_ix ix_list (pv 0) pe_int (fun _ _ => rfl)) (pe_op op_mod (pe_callTy call_int1 (by rfl) T.b_int (by decide +kernel) (pa_cons (pe_ix ix_list (pv 0) pe_int (fun _ _ => rfl)) pa_nil)) (pe_callB call_len_seq (by rfl) T.b_len PySem.boot_len (pa_cons (pe_ix ix_list (pv 0) pe_int (fun _ _ => rfl)) pa_nil))) set_list))
      (pss_one (ps_ret (pe_op op_mod (pe_callTy call_int1 (by rfl) T.b_int (by decide +kernel) (pa_cons (pv 2) pa_nil)) (pv 1))))) pss_nil)
      (pss_cons (ps_asg (pe_op op_mod (pe_callTy call_int1 (by rfl) T.b_int (by decide +kernel) (pa_cons (pe_op op_add (pe_op op_add (pe_op op_mul (pe_ix ix_list (pv 0) pe_int (fun _ _ => rfl)) pe_int) (pe_op op_mul (pv 2) pe_int)) pe_int) pa_nil)) pe_int) (pg_sub (pv 0) pe_int set_list))
      (pss_cons (ps_asg (pe_op op_add (pe_ix ix_list (pv 0) pe_int (fun _ _ => rfl)) pe_int) (pg_sub (pv 0) pe_int set_list))
      (pss_one (ps_ret (pe_op op_mod (pe_callTy call_int1 (by rfl) T.b_int (by decide +kernel) (pa_cons (pe_op op_fdiv (pe_ix ix_list (pv 0) pe_int (fun _ _ => rfl)) pe_int) pa_nil)) (pv 1)))))))), ?_⟩
  have nch := D.ne
  obtain ⟨s, i, hS, hs0, hs1, hi0⟩ := D.st
  obtain ⟨cs, hC, h63⟩ := D.ce
  have ix0 : ∀ {H2 : Hp}, H2 h = some (.lst [.int s, .ref c, .int i]) → RV (rIxL K) (.ref h) (.int 0) H2 (.int s) := fun e => rv_ixL (sq_of e) (at_eq (atI_nat (j := 0) rfl) rfl)
  have ix1 : ∀ {H2 : Hp}, H2 h = some (.lst [.int s, .ref c, .int i]) → RV (rIxL K) (.ref h) (.int 1) H2 (.ref c) := fun e => rv_ixL (sq_of e) (at_eq (atI_nat (j := 1) rfl) rfl)
  have ix2 : ∀ {H2 : Hp}, H2 h = some (.lst [.int s, .ref c, .int i]) → RV (rIxL K) (.ref h) (.int 2) H2 (.int i) := fun e => rv_ixL (sq_of e) (at_eq (atI_nat (j := 2) rfl) rfl)
  -- the cell
  obtain ⟨m, hm⟩ : ∃ m : Int, m = if ((cs.map V.int).length : Int) > 1 then ((cs.map V.int).length : Int) else 1 := ⟨_, rfl⟩
  rw [List.length_map] at hm
  have hm0 : 0 < m := by
    rw [hm]
    split <;> omega
  have hj0 := Int.emod_nonneg i (show m ≠ 0 by omega)
  have hj1 := Int.emod_lt_of_pos i hm0
  obtain ⟨j, hj⟩ : ∃ j : Nat, (j : Int) = i % m := ⟨(i % m).toNat, by omega⟩
  obtain ⟨k, hk, hkc⟩ : ∃ k : Int, (cs ++ [0])[j]? = some k ∧ (k ≥ 10 ^ 18 → m = cs.length ∧ j < cs.length) := by
    rcases Nat.lt_or_ge j cs.length with g | g
    · refine ⟨cs[j], by rw [List.getElem?_append_left g, List.getElem?_eq_getElem g], fun _ => ⟨?_, g⟩⟩
      rw [hm]
      split <;> omega
    · have : cs.length = 0 := by
        rcases Nat.eq_zero_or_pos cs.length with z | z
        · exact z
        · exfalso
          have : m = cs.length := by
            rw [hm]
            split <;> omega
          omega
      have hj00 : j = 0 := by
        have : m = 1 := by
          rw [hm, this]
          rfl
        omega
      have hcs : cs = [] := List.eq_nil_of_length_eq_zero this
      rw [hcs, hj00]
      exact ⟨0, rfl, fun h => absurd h (by decide)⟩
  have at_k : atI ((cs ++ [0]).map V.int) (i % m) = some (.int k) := by
    rw [← hj]
    exact atI_nat (by rw [List.getElem?_map, hk]; rfl)
  refine q_asg (v := .int k) (ev_opL1 (xs := (cs ++ [0]).map V.int) (y := .int (i % m)) ?_ (fun H1 e1 => ev_op (ev_int (ev_op (ev_var rfl) ev_c (ix2 (e1 _ _ hS)))) (ev_is (ev_max2 ev_c (ev_len (ev_op (ev_var rfl) ev_c (ix1 (e1 _ _ hS))) (sq_of (e1 _ _ hC)))) (by rw [List.length_map, hm])) (rv_mod hm0)) (fun p H1 hp e1 => rv_ixL (sq_of hp) at_k)) fun H1 e1 => ?_
  · have := el_catVN (ta := tOp (rIxL K) (tVar 0) (tC (.int 1))) (tb := tLst (tCons (tC (.int 0)) tNil)) (σ := [some (.ref h), some (.int n), none]) (ev_op (ev_var rfl) ev_c (ix1 hS)) hC (el_lst (ea_cons ev_c ea_nil) (by show 1 ≤ 100000; decide)) (by rw [List.length_map]; show cs.length + 1 ≤ 100000; omega)
    rw [List.map_append]
    exact this
  have hS1 := e1 _ _ hS
  have hC1 := e1 _ _ hC
  refine q_when (et_test (ev_op (ev_var rfl) (ev_op ev_c ev_c (rv_I ⟨by decide, by decide, by decide⟩)) rv_I0)) (fun hb H2 e2 => ?_) (fun hb H2 e2 => ?_)
  · have hbig : k ≥ 10 ^ 18 := of_decide_eq_true hb
    obtain ⟨hmc, hjc⟩ := hkc hbig
    have e12 := e1.trans e2
    refine op_asg ?_
    refine (ev_op (ev_var rfl) (ev_var rfl) (rv_div hn0 (by omega))) H2 (Ex.refl H2) _ fun H3 e3 => ?_
    have e13 := e12.trans e3
    refine (ev_op (ev_var rfl) ev_c (ix1 (e13 _ _ hS))) H3 (Ex.refl H3) _ fun H4 e4 => ?_
    have e14 := e13.trans e4
    refine (ev_op (ev_int (ev_op (ev_var rfl) ev_c (ix2 (e14 _ _ hS)))) (ev_is (ev_len (ev_op (ev_var rfl) ev_c (ix1 (e14 _ _ hS))) (sq_of (e14 _ _ hC))) (by rw [List.length_map])) (rv_mod (by omega))) H4 (Ex.refl H4) _ fun H5 e5 => ?_
    have e15 := e14.trans e5
    refine ⟨c, _, _, j, rfl, rfl, e15 _ _ hC, ?_, ?_⟩
    · rw [← hmc, ← hj, List.length_map]
      exact ixN_nat hjc
    · refine s_ret (ev_op (ev_int (ev_var rfl)) (ev_var rfl) (rv_mod hn0)) fun H6 e6 => ?_
      refine q _ _ (((Xc.of e15).mut (.inl (by simp))).trans (Xc.of e6)) ?_ (Int.emod_nonneg _ (by omega)) (Int.emod_lt_of_pos _ hn0)
      refine Dw.mono ⟨⟨s, i, by rw [upd_ne nch.symm]; exact e15 _ _ hS, hs0, hs1, hi0⟩, cs.set j (k / n), ?_, by rw [List.length_set]; exact h63⟩ e6
      rw [upd_same, List.map_set]
  · have e12 := e1.trans e2
    refine op_asg ?_
    refine (ev_op (ev_int (ev_op (ev_op (ev_op (ev_op (ev_var rfl) ev_c (ix0 (e12 _ _ hS))) ev_c (rv_mulR (by decide))) (ev_op (ev_var rfl) ev_c (rv_mulR (by decide))) rv_I0) ev_c rv_I0)) ev_c (rv_mod (by decide))) H2 (Ex.refl H2) _ fun H3 e3 => ?_
    have e13 := e12.trans e3
    refine ⟨_, rfl, h, _, _, 0, rfl, rfl, e13 _ _ hS, rfl, ?_⟩
    obtain ⟨s', hs'⟩ : ∃ s' : Int, s' = (s * 48271 + k * 69621 + 11) % 2147483647 := ⟨_, rfl⟩
    have hs'0 : 0 ≤ s' := by rw [hs']; exact Int.emod_nonneg _ (by decide)
    have hs'1 : s' < 2147483647 := by rw [hs']; exact Int.emod_lt_of_pos _ (by decide)
    rw [← hs']
    have g1 : upd H3 h (.lst ([V.int s, .ref c, .int i].set 0 (.int s'))) h = some (.lst [.int s', .ref c, .int i]) := upd_same
    have g2 : upd H3 h (.lst ([V.int s, .ref c, .int i].set 0 (.int s'))) c = some (.lst (cs.map V.int)) := by
      rw [upd_ne nch]
      exact e13 _ _ hC
    have g3 : Xc [h, c] H (upd H3 h (.lst ([V.int s, .ref c, .int i].set 0 (.int s')))) := (Xc.of e13).mut (.inl (by simp))
    revert g1 g2 g3
    generalize upd H3 h (.lst ([V.int s, .ref c, .int i].set 0 (.int s'))) = H4
    intro g1 g2 g3
    refine op_asg ?_
    refine (ev_op (ev_op (ev_var rfl) ev_c (rv_ixL (sq_of g1) (at_eq (atI_nat (j := 2) rfl) rfl))) ev_c rv_I0) H4 (Ex.refl H4) _ fun H5 e5 => ?_
    refine ⟨_, rfl, h, _, _, 2, rfl, rfl, e5 _ _ g1, rfl, ?_⟩
    have k1 : upd H5 h (.lst ([V.int s', .ref c, .int i].set 2 (.int (i + 1)))) h = some (.lst [.int s', .ref c, .int (i + 1)]) := upd_same
    refine s_ret (ev_op (ev_int (ev_op (ev_op (ev_var rfl) ev_c (rv_ixL (sq_of k1) (at_eq (atI_nat (j := 0) rfl) rfl))) ev_c (rv_div (by decide) (by decide)))) (ev_var rfl) (rv_mod hn0)) fun H6 e6 => ?_
    refine q _ _ ((g3.trans ((Xc.of e5).mut (.inl (by simp)))).trans (Xc.of e6)) ?_ (Int.emod_nonneg _ (by omega)) (Int.emod_lt_of_pos _ hn0)
    exact Dw.mono ⟨⟨s', i + 1, k1, hs'0, hs'1, by omega⟩, cs, by rw [upd_ne nch]; exact e5 _ _ g2, h63⟩ e6
theorem go_next {h c : Addr} {n : Int} {σ : L2.St} {H : Hp} {i : Nat} {te : TE} {E : XK} {Q : VK} (D : Dw H h c) (hv : σ[i]? = some (some (.ref h))) (hn : Ev te σ H (.int n)) (h0 : 0 < n) (h1 : n < 1000)
    (k : ∀ r H', Xc [h, c] H H' → Dw H' h c → 0 ≤ r → r < n → Q (.int r) H') : tK spNext E (tCons (tVar i) (tCons te tNil)) σ H Q :=
  go_k (ea_cons (ev_var hv) (ea_cons hn ea_nil)) fun H2 e2 => ⟨h, c, n, rfl, D.mono e2, h0, h1, fun r H' x d a b => k r H' ((Xc.of e2).trans x) d a b⟩
end
end K56
set_option Elab.async false
set_option linter.all false
set_option maxRecDepth 100000
set_option maxHeartbeats 4000000
/-! K56, part D18: facts and sides drawn. -/
namespace K56
open PySem PySem.W PyProof.Rows L2 Evl He
def Sh (ws : List Str) : Prop := ∀ z ∈ ws, z.length ≤ 10
theorem Sh.app {a b : List Str} (h : Sh a) (h2 : Sh b) : Sh (a ++ b) := fun z hz => by
  rcases List.mem_append.mp hz with q | q
  · exact h z q
  · exact h2 z q
theorem Sh.one {z : Str} (h : z.length ≤ 10) : Sh [z] := fun y hy => by
  rw [List.mem_singleton.mp hy]
  exact h
theorem Sh.nil : Sh [] := fun z hz => by cases hz
section
variable {K : Frag} {σ : L2.St} {H : Hp} {D : Ends} {ta : TA} {tu tz : TS}
theorem q_forRN {j : Nat} (B : Int → Hp → Prop) (h : ∀ R : List V → Hp → Prop, (∀ n H1, 0 ≤ n → n ≤ 100000 → B n H1 → R [.int n] H1) → ta σ H R) (Pv : Int → Nat → L2.St → Hp → Prop) (h0 : ∀ n H1, B n H1 → Pv n 0 σ H1)
    (hs : ∀ n (i : Nat) σ' H', (i : Int) < n → Pv n i σ' H' → tu { D with nx := Pv n (i + 1), ct := Pv n (i + 1), bk := tz D } (σ'.set j (some (.int (i : Int)))) H') (hd : ∀ n σ' H', Pv n n.toNat σ' H' → tz D σ' H') : tSeq (tFor (iRng1 ta) (gName j) tu) tz D σ H :=
  h _ fun n H1 a b hB => ⟨n, rfl, by omega, by omega, for_range (D := { D with nx := tz D }) (lo := 0) (n := n.toNat) (Pv n) (h0 n H1 hB) (fun i σ' H' hi p => by
    have e0 : (0 : Int) + (i : Int) = (i : Int) := Int.zero_add _
    show tu { D with nx := Pv n (i + 1), ct := Pv n (i + 1), bk := tz D } (σ'.set j (some (.int ((0 : Int) + (i : Int))))) H'
    rw [e0]
    exact hs n i σ' H' (by omega) p) (hd n)⟩
theorem op_opC {r : R2} {v : V} {tb : TE} {Q : VK} (h : tb σ H fun y H2 => r v y H2 Q) : tOp r (tC v) tb σ H Q := h
theorem op_op {r : R2} {te tb : TE} {Q : VK} (h : te σ H fun x H1 => tb σ H1 fun y H2 => r x y H2 Q) : tOp r te tb σ H Q := h
theorem op_cb {r : List V → Hp → VK → Prop} {Q : VK} (h : ta σ H fun vs H1 => r vs H1 Q) : tCB r ta σ H Q := h
theorem op_par3 {i j l : Nat} (h : ta σ H fun vs H1 => ∃ u v w, vs = [u, v, w] ∧ tz D (((σ.set i (some u)).set j (some v)).set l (some w)) H1) : tSeq (tPar3 i j l ta) tz D σ H := h
end
theorem at_pop {ws : List Str} {r : Int} (h0 : 0 ≤ r) (h1 : r < ws.length) : ∃ k : Nat, k < ws.length ∧ -(2 ^ 63) ≤ r ∧ (r < 2 ^ 63 ∨ ¬ ws.length ≤ 1000) ∧ seqIndex? r (ws.map V.str).length = some k ∧ (ws.map V.str)[k]? = some (.str (wd ws k)) := by
  obtain ⟨k, rfl⟩ : ∃ k : Nat, r = (k : Int) := ⟨r.toNat, by omega⟩
  refine ⟨k, by omega, by omega, by omega, (ixN_seq (ixN_nat (by rw [List.length_map]; omega))).1, ?_⟩
  rw [List.getElem?_map, wd_at (by omega)]
  rfl
theorem erase_str : ∀ {ws : List Str} {k : Nat}, (ws.map V.str).eraseIdx k = (ws.eraseIdx k).map V.str
  | [], k => by simp
  | z :: r, 0 => rfl
  | z :: r, k + 1 => by
    show V.str z :: (r.map V.str).eraseIdx k = V.str z :: (r.eraseIdx k).map V.str
    rw [erase_str]
theorem Sh.erase {ws : List Str} {k : Nat} (h : Sh ws) : Sh (ws.eraseIdx k) := fun z hz => h z (List.mem_of_mem_eraseIdx hz)
theorem Sh.wd {ws : List Str} {k : Nat} (h : Sh ws) (hk : k < ws.length) : (wd ws k).length ≤ 10 := h _ (wd_mem hk)
section
variable {P : Program} {w : World} {K : Frag} {mg : Str → Option Value} {base : Heap}
def spDFacts : Sp := fun vs H Q _ => ∃ (h c : Addr) (n : Int), vs = [.ref h, .int n] ∧ Dw H h c ∧ 0 < n ∧ n < 1000 ∧ ∀ a fs H', Xc [h, c] H H' → Dw H' h c → ST H' a fs → Sh fs → fs.length ≤ 10 → Q (.ref a) H'
theorem new_ne {H : Hp} {h c l : Addr} (D : Dw H h c) (hl : H l = none) : l ≠ h ∧ l ≠ c := by
  obtain ⟨s, i, hS, _⟩ := D.st
  obtain ⟨cs, hC, _⟩ := D.ce
  exact ⟨fun e => (by rw [e, hS] at hl; cases hl), fun e => (by rw [e, hC] at hl; cases hl)⟩
theorem sc_l_facts : FnScope ["_law_h", "_law_most", "_law_some", "_law_many"] ["_law_h", "_law_most"] (defScope sFacts) := ⟨rfl, rfl, rfl, by decide +kernel, rfl, by decide +kernel, by decide +kernel⟩
theorem ok_l_facts (T : TX P K mg) : OkF P w K mg base CX0 (1 + 1) (ga K "_law_facts") ["_law_h", "_law_most"] spDFacts := by
  refine OkF.mk0 T.d_l_facts sc_l_facts (fun _ _ _ _ _ _ us hl => match us, hl with | [_, _], _ => rfl) (fun vs H Q E h => ?_) (fun cdv A outs s H vs Q E hr h => ?_)
  · obtain ⟨_, _, _, rfl, _⟩ := h; rfl
  obtain ⟨h, c, n, rfl, D, hn0, hn1, q⟩ := h
  refine ⟨_, (pss_cons (ps_set (i := 2) sc_l_facts.nd rfl (Or.inl rfl) (pe_lst (pa_cons pe_str (pa_cons pe_str (pa_cons pe_str (pa_cons pe_str (pa_cons pe_str (pa_cons pe_str (pa_cons pe_str (pa_cons pe_str (pa_cons pe_str (pa_cons pe_str pa_nil))))))))))))
      (pss_cons (ps_set (i := 3) sc_l_facts.nd rfl (Or.inl rfl) (pe_op op_add pe_int (pe_c (ok_l_next T) hr (by omega) T.g_l_next (E := E0) passN (pa_cons (pv 0) (pa_cons (pv 1) pa_nil)))))
      (pss_cons (ps_while PassesOwn.never (pt_cmpR op_gt (pe_callB call_len_seq (by rfl) T.b_len PySem.boot_len (pa_cons (pv 2) pa_nil)) (pv 3) (nomark _)) (pss_one (ps_expr (pe_bm PySem.F.plainAttrs_list PySem.F.slot_list_pop PySem.F.type_list_pop mt_popAt (pv 2) (pa_cons (pe_c (ok_l_next T) hr (by omega) T.g_l_next (E := E0) passN (pa_cons (pv 0) (pa_cons (pe_callB call_len_seq (by rfl) T.b_len PySem.boot_len (pa_cons (pv 2) pa_nil)) pa_nil))) pa_nil)))))
      (pss_one (ps_ret (pe_callTy call_tuple_of (by rfl) T.b_tuple (by decide +kernel) (pa_cons (pv 2) pa_nil))))))), ?_⟩
  refine q_asgL (xs := (["crew", "debt", "fog", "gate", "late", "mail", "noon", "paid", "rain", "warm"] : List Str).map V.str) (el_lst (ea_cons ev_c (ea_cons ev_c (ea_cons ev_c (ea_cons ev_c (ea_cons ev_c (ea_cons ev_c (ea_cons ev_c (ea_cons ev_c (ea_cons ev_c (ea_cons ev_c ea_nil)))))))))) (by show 10 ≤ 100000; decide)) fun l H0 hl e0 hL0 => ?_
  have D0 := D.mono e0
  obtain ⟨nh, nc⟩ := new_ne D hl
  refine op_asg (op_opC (go_next D0 rfl (ev_var rfl) hn0 hn1 fun r H1 x1 D1 r0 r1 => ⟨1, r, rfl, rfl, ?_⟩))
  refine q_while (fun m σ' H' => ∃ ss : List Str, m = ss.length ∧ σ' = [some (.ref h), some (.int n), some (.ref l), some (.int (1 + r))] ∧ Xc [h, c] H H' ∧ Dw H' h c ∧ SL H' l ss ∧ Sh ss ∧ ss.length ≤ 10) 10
    ⟨["crew", "debt", "fog", "gate", "late", "mail", "noon", "paid", "rain", "warm"], rfl, rfl, (Xc.of e0).trans x1, D1, x1 _ _ (by simp [nh, nc]) hL0, by unfold Sh; decide +kernel, by decide⟩ ?_
  rintro m σ' H' ⟨ss, rfl, rfl, a1, a2, a3, a4, a5⟩
  refine ⟨_, et_test (ev_op (ev_len (ev_var rfl) (sq_of a3)) (ev_var rfl) rv_I0), fun hb H2 e2 => ?_, fun hb H2 e2 => ?_⟩
  · have hlt := of_decide_eq_true hb
    rw [List.length_map] at hlt
    refine ⟨fun σ2 H3 => ∃ ss' : List Str, ss'.length < ss.length ∧ σ2 = [some (.ref h), some (.int n), some (.ref l), some (.int (1 + r))] ∧ Xc [h, c] H H3 ∧ Dw H3 h c ∧ SL H3 l ss' ∧ Sh ss' ∧ ss'.length ≤ 10, ?_, ?_⟩
    · rintro σ2 H3 ⟨ss', b1, b2, b3, b4, b5, b6, b7⟩
      exact ⟨ss'.length, b1, ss', rfl, b2, b3, b4, b5, b6, b7⟩
    refine ⟨_, rfl, .inl ⟨rfl, _, sq_of (e2 _ _ a3)⟩, op_cons ?_⟩
    refine go_next (a2.mono e2) rfl (ev_len (ev_var rfl) (sq_of (e2 _ _ a3))) (by rw [List.length_map]; omega) (by rw [List.length_map]; omega) fun r2 H3 x3 D3 r20 r21 => ?_
    rw [List.length_map] at r21
    obtain ⟨k, k1, k2, k3, k4, k5⟩ := at_pop r20 r21
    refine ⟨l, _, r2, k, _, rfl, rfl, x3 _ _ (by simp [nh, nc]) (e2 _ _ a3), k2, by omega, k4, k5, ss.eraseIdx k, by rw [List.length_eraseIdx_of_lt k1]; omega, rfl, ?_, D3.upd nh nc, ?_, a4.erase, by rw [List.length_eraseIdx_of_lt k1]; omega⟩
    · exact ((a1.trans (Xc.of e2)).trans x3).mut (.inr hl)
    · show upd H3 l _ l = _
      rw [upd_same, erase_str]
  · refine ⟨_, rfl, l, _, rfl, .inl ⟨sq_of (e2 _ _ a3), fun t ht => ?_⟩⟩
    exact q t ss _ ((a1.trans (Xc.of e2)).trans (Xc.of (Ex.new ht))) ((a2.mono e2).mono (Ex.new ht)) upd_same a4 a5
def spSides : Sp := fun vs H Q _ => ∃ (h c fa : Addr) (fs : List Str) (n : Nat), vs = [.ref h, .ref fa, .int n] ∧ Dw H h c ∧ ST H fa fs ∧ Sh fs ∧ fs.length ≤ 10 ∧ n ≤ 10 ∧
  ∀ t a b hs ls H', Xc [h, c] H H' → Dw H' h c → H' t = some (.tup [.ref a, .ref b]) → ST H' a hs → ST H' b ls → Sh hs → Sh ls → hs.length ≤ 10 → ls.length ≤ 10 → Q (.ref t) H'
theorem rMin_le {i j : Int} : (if j < i then j else i) ≤ i ∧ (if j < i then j else i) ≤ j := by
  split <;> omega
theorem sc_l_sides : FnScope ["_law_h", "_law_facts_here", "_law_most", "_law_rest", "_law_holding", "_law_failing", "_law_k", "_law_one"] ["_law_h", "_law_facts_here", "_law_most"] (defScope sSides) := ⟨rfl, rfl, rfl, by decide +kernel, rfl, by decide +kernel, by decide +kernel⟩
theorem ok_l_sides (T : TX P K mg) : OkF P w K mg base CX0 (1 + 1) (ga K "_law_sides") ["_law_h", "_law_facts_here", "_law_most"] spSides := by
  refine OkF.mk0 T.d_l_sides sc_l_sides (fun _ _ _ _ _ _ us hl => match us, hl with | [_, _, _], _ => rfl) (fun vs H Q E h => ?_) (fun cdv A outs s H vs Q E hr h => ?_)
  · obtain ⟨_, _, _, _, _, rfl, _⟩ := h; rfl
  obtain ⟨h, c, fa, fs, n, rfl, D, hF, hFs, hf10, hn10, q⟩ := h
  refine ⟨_, (pss_cons (ps_par3 (i := 3) (j := 4) (l := 5) rfl sc_l_sides.nd rfl rfl rfl (by decide) (by decide) (by decide) rfl rfl rfl (pa_cons (pe_callTy call_list_of (by rfl) T.b_list (by decide +kernel) (pa_cons (pv 1) pa_nil)) (pa_cons (pe_lst pa_nil) (pa_cons (pe_lst pa_nil) pa_nil))) rfl)
      (pss_cons (ps_for PassesOwn.never rfl (pi_range1 rfl T.b_range (pa_cons (pe_c (ok_l_next T) hr (by omega) T.g_l_next (E := E0) passN (pa_cons (pv 0) (pa_cons (pe_op op_add (pe_callB (call_min2 rfl) (by rfl) T.b_min (by decide +kernel) (pa_cons (pv 2) (pa_cons (pe_callB call_len_seq (by rfl) T.b_len PySem.boot_len (pa_cons (pv 1) pa_nil)) pa_nil))) pe_int) pa_nil))) pa_nil)) (pg_name (i := 6) sc_l_sides.nd rfl (Or.inl rfl)) (pss_cons (ps_set (i := 7) sc_l_sides.nd rfl (Or.inl rfl) (pe_bm PySem.F.plainAttrs_list PySem.F.slot_list_pop PySem.F.type_list_pop mt_popAt (pv 3) (pa_cons (pe_c (ok_l_next T) hr (by omega) T.g_l_next (E := E0) passN (pa_cons (pv 0) (pa_cons (pe_callB call_len_seq (by rfl) T.b_len PySem.boot_len (pa_cons (pv 3) pa_nil)) pa_nil))) pa_nil)))
      (pss_one (ps_if (pt_cmpR op_gt (pe_c (ok_l_next T) hr (by omega) T.g_l_next (E := E0) passN (pa_cons (pv 0) (pa_cons pe_int pa_nil))) pe_int (nomark _)) (pss_one (ps_expr (pe_bm PySem.F.plainAttrs_list PySem.F.slot_list_append PySem.F.type_list_append mt_append (pv 4) (pa_cons (pv 7) pa_nil)))) (pss_one (ps_expr (pe_bm PySem.F.plainAttrs_list PySem.F.slot_list_append PySem.F.type_list_append mt_append (pv 5) (pa_cons (pv 7) pa_nil))))))))
      (pss_one (ps_ret (pe_tup (pa_cons (pe_callTy call_tuple_of (by rfl) T.b_tuple (by decide +kernel) (pa_cons (pe_callB cr_sortedS (by rfl) T.b_sorted (by decide +kernel) (pa_cons (pv 4) pa_nil)) pa_nil)) (pa_cons (pe_callTy call_tuple_of (by rfl) T.b_tuple (by decide +kernel) (pa_cons (pe_callB cr_sortedS (by rfl) T.b_sorted (by decide +kernel) (pa_cons (pv 5) pa_nil)) pa_nil)) pa_nil))))))), ?_⟩
  refine op_par3 (op_cons ⟨_, rfl, fa, _, rfl, .inr (st_of hF), fun l1 hl1 => op_cons ⟨Nat.zero_le _, fun l2 hl2 => op_cons ⟨Nat.zero_le _, fun l3 hl3 => ⟨_, _, _, rfl, ?_⟩⟩⟩⟩)
  have e3 : Ex H (upd (upd (upd H l1 (.lst (fs.map V.str))) l2 (.lst [])) l3 (.lst [])) := ((Ex.new hl1).trans (Ex.new hl2)).trans (Ex.new hl3)
  have h1 : SL (upd (upd (upd H l1 (.lst (fs.map V.str))) l2 (.lst [])) l3 (.lst [])) l1 fs := Ex.new hl3 _ _ (Ex.new hl2 _ _ upd_same)
  have h2 : SL (upd (upd (upd H l1 (.lst (fs.map V.str))) l2 (.lst [])) l3 (.lst [])) l2 [] := Ex.new hl3 _ _ upd_same
  have h3 : SL (upd (upd (upd H l1 (.lst (fs.map V.str))) l2 (.lst [])) l3 (.lst [])) l3 [] := upd_same
  have n12 : l1 ≠ l2 := ne_of_none upd_same hl2
  have n13 : l1 ≠ l3 := ne_of_none (Ex.new hl2 _ _ upd_same) hl3
  have n23 : l2 ≠ l3 := ne_of_none upd_same hl3
  have f2 : H l2 = none := fresh_back (Ex.new hl1) hl2
  have f3 : H l3 = none := fresh_back ((Ex.new hl1).trans (Ex.new hl2)) hl3
  obtain ⟨m1, m2⟩ := new_ne D hl1
  obtain ⟨m3, m4⟩ := new_ne D f2
  obtain ⟨m5, m6⟩ := new_ne D f3
  revert e3 h1 h2 h3
  generalize upd (upd (upd H l1 (.lst (fs.map V.str))) l2 (.lst [])) l3 (.lst []) = H3
  intro e3 h1 h2 h3
  have D3 := D.mono e3
  have keepL : ∀ {H1 H2 : Hp} {l : Addr} {ws : List Str}, Xc [h, c] H1 H2 → l ≠ h → l ≠ c → SL H1 l ws → SL H2 l ws := fun x a b s => x _ _ (by simp [a, b]) s
  obtain ⟨mn, hmn⟩ : ∃ mn : Int, mn = if ((fs.length : Nat) : Int) < (n : Int) then ((fs.length : Nat) : Int) else (n : Int) := ⟨_, rfl⟩
  have hmnl : 0 ≤ mn ∧ mn ≤ fs.length ∧ mn ≤ n := by
    rw [hmn]
    split <;> omega
  refine q_forRN (j := 6) (fun m H4 => 0 ≤ m ∧ m ≤ mn ∧ Xc [h, c] H H4 ∧ Dw H4 h c ∧ SL H4 l1 fs ∧ SL H4 l2 [] ∧ SL H4 l3 []) (fun R k => ?_)
    (fun m i σ' H' => m ≤ mn ∧ ∃ rs hs ls x6 x7, σ' = [some (.ref h), some (.ref fa), some (.int n), some (.ref l1), some (.ref l2), some (.ref l3), x6, x7] ∧ Xc [h, c] H H' ∧ Dw H' h c ∧ SL H' l1 rs ∧ SL H' l2 hs ∧ SL H' l3 ls ∧ Sh rs ∧ Sh hs ∧ Sh ls ∧ rs.length + i = fs.length ∧ hs.length + ls.length = i ∧ ((i : Int) ≤ m))
    (fun m H4 hB => ⟨hB.2.1, fs, [], [], none, none, rfl, hB.2.2.1, hB.2.2.2.1, hB.2.2.2.2.1, hB.2.2.2.2.2.1, hB.2.2.2.2.2.2, hFs, Sh.nil, Sh.nil, rfl, rfl, hB.1⟩) (fun m i σ' H' hi p => ?_) (fun m σ' H' p => ?_)
  · refine op_cons ?_
    refine go_next D3 rfl (n := mn + 1) (ev_op (ev_is (ev_cb (ea_cons (ev_var rfl) (ea_cons (ev_lenT (ev_var rfl) (st_of (e3 _ _ hF))) ea_nil)) rc_min) (by rw [List.length_map, hmn])) ev_c rv_I0) (by omega) (by omega) fun r H4 x4 D4 r0 r1 => ?_
    exact k r H4 r0 (by omega) ⟨r0, by omega, (Xc.of e3).trans x4, D4, keepL x4 m1 m2 h1, keepL x4 m3 m4 h2, keepL x4 m5 m6 h3⟩
  · obtain ⟨hm, rs, hs, ls, x6, x7, rfl, a1, a2, a3, a4, a5, a6, a7, a8, a9, a10, a11⟩ := p
    have hrs : 0 < rs.length := by omega
    refine op_asg ⟨_, rfl, .inl ⟨rfl, _, sq_of a3⟩, op_cons ?_⟩
    refine go_next a2 rfl (ev_len (ev_var rfl) (sq_of a3)) (by rw [List.length_map]; omega) (by rw [List.length_map]; omega) fun r H4 x4 D4 r0 r1 => ?_
    rw [List.length_map] at r1
    obtain ⟨k, k1, k2, k3, k4, k5⟩ := at_pop r0 r1
    refine ⟨l1, _, r, k, _, rfl, rfl, keepL x4 m1 m2 a3, k2, by omega, k4, k5, ?_⟩
    have b0 : Xc [h, c] H (upd H4 l1 (.lst ((rs.map V.str).eraseIdx k))) := (a1.trans x4).mut (.inr hl1)
    have bD : Dw (upd H4 l1 (.lst ((rs.map V.str).eraseIdx k))) h c := D4.upd m1 m2
    have b1 : SL (upd H4 l1 (.lst ((rs.map V.str).eraseIdx k))) l1 (rs.eraseIdx k) := by
      show upd H4 l1 _ l1 = _
      rw [upd_same, erase_str]
    have b2 : SL (upd H4 l1 (.lst ((rs.map V.str).eraseIdx k))) l2 hs := by
      show upd H4 l1 _ l2 = _
      rw [upd_ne n12.symm]
      exact keepL x4 m3 m4 a4
    have b3 : SL (upd H4 l1 (.lst ((rs.map V.str).eraseIdx k))) l3 ls := by
      show upd H4 l1 _ l3 = _
      rw [upd_ne n13.symm]
      exact keepL x4 m5 m6 a5
    have hz := a6.wd k1
    have hrl : (rs.eraseIdx k).length + (i + 1) = fs.length := by
      rw [List.length_eraseIdx_of_lt k1]
      omega
    revert b0 bD b1 b2 b3
    generalize upd H4 l1 (.lst ((rs.map V.str).eraseIdx k)) = H5
    intro b0 bD b1 b2 b3
    refine go_next bD rfl (n := 3) ev_c (by decide) (by decide) fun r2 H6 x6 D6 r20 r21 => ⟨r2, 0, rfl, rfl, _, rfl, ?_⟩
    have c0 := b0.trans x6
    have c1 := keepL x6 m1 m2 b1
    have c2 := keepL x6 m3 m4 b2
    have c3 := keepL x6 m5 m6 b3
    refine ite2 (fun _ => ?_) (fun _ => ?_)
    · refine s_app c2 (ev_var rfl) (ev_var rfl) (by rw [List.length_map]; omega) fun H7 e7 => ?_
      refine ⟨hm, rs.eraseIdx k, hs ++ [wd rs k], ls, _, _, rfl, (c0.trans (Xc.of e7)).mut (.inr f2), (D6.mono e7).upd m3 m4, ?_, ?_, ?_, a6.erase, a7.app (Sh.one hz), a8, hrl, by rw [List.length_append, List.length_singleton]; omega, by omega⟩
      · show upd H7 l2 _ l1 = _
        rw [upd_ne n12]
        exact e7 _ _ c1
      · show upd H7 l2 _ l2 = _
        rw [upd_same, List.map_append]
        rfl
      · show upd H7 l2 _ l3 = _
        rw [upd_ne n23.symm]
        exact e7 _ _ c3
    · refine s_app c3 (ev_var rfl) (ev_var rfl) (by rw [List.length_map]; omega) fun H7 e7 => ?_
      refine ⟨hm, rs.eraseIdx k, hs, ls ++ [wd rs k], _, _, rfl, (c0.trans (Xc.of e7)).mut (.inr f3), (D6.mono e7).upd m5 m6, ?_, ?_, ?_, a6.erase, a7, a8.app (Sh.one hz), hrl, by rw [List.length_append, List.length_singleton]; omega, by omega⟩
      · show upd H7 l3 _ l1 = _
        rw [upd_ne n13]
        exact e7 _ _ c1
      · show upd H7 l3 _ l2 = _
        rw [upd_ne n23]
        exact e7 _ _ c2
      · show upd H7 l3 _ l3 = _
        rw [upd_same, List.map_append]
        rfl
  · obtain ⟨hm, rs, hs, ls, x6, x7, rfl, a1, a2, a3, a4, a5, a6, a7, a8, a9, a10, a11⟩ := p
    have hhl : hs.length + ls.length ≤ 10 := by omega
    refine op_ret (op_cons ⟨_, rfl, l2, hs, rfl, sq_of a4, by omega, fun ys p hp hs1 np => ⟨p, _, rfl, .inl ⟨sq_of upd_same, fun ta hta => op_cons ?_⟩⟩⟩)
    have e5 : Ex H' (upd (upd H' p (.lst (ys.map V.str))) ta (.tup (ys.map V.str))) := (Ex.new np).trans (Ex.new hta)
    have g1 : ST (upd (upd H' p (.lst (ys.map V.str))) ta (.tup (ys.map V.str))) ta ys := upd_same
    revert e5 g1
    generalize upd (upd H' p (.lst (ys.map V.str))) ta (.tup (ys.map V.str)) = H5
    intro e5 g1
    refine ⟨_, rfl, l3, ls, rfl, sq_of (e5 _ _ a5), by omega, fun zs p2 hp2 hs2 np2 => ⟨p2, _, rfl, .inl ⟨sq_of upd_same, fun tb htb => ⟨by show 2 ≤ sizeLine; decide, fun t ht => ?_⟩⟩⟩⟩
    have e6 : Ex H5 (upd (upd H5 p2 (.lst (zs.map V.str))) tb (.tup (zs.map V.str))) := (Ex.new np2).trans (Ex.new htb)
    have e7 := e6.trans (Ex.new (o := .tup [.ref ta, .ref tb]) ht)
    refine q t ta tb ys zs _ (a1.trans (Xc.of (e5.trans e7))) (a2.mono (e5.trans e7)) upd_same (e7 _ _ g1) (Ex.new ht _ _ upd_same) (fun z hz => a7 z (hp.mem_iff.mp hz)) (fun z hz => a8 z (hp2.mem_iff.mp hz)) (by rw [hp.length_eq]; omega) (by rw [hp2.length_eq]; omega)
end
end K56
set_option Elab.async false
set_option linter.all false
set_option maxRecDepth 100000
set_option maxHeartbeats 4000000
/-! K56, part D19: rules drawn. -/
namespace K56
open PySem PySem.W PyProof.Rows L2 Evl He
def RuB (H : Hp) (v : V) (R : List V → Prop) : Prop := ∃ t a b i vs nm hs ls ru, v = .ref t ∧ H t = some (.tup [.str nm, .ref a, .ref b, .str ru, .ref i]) ∧ ST H a hs ∧ ST H b ls ∧ H i = some (.tup vs) ∧ Sh hs ∧ Sh ls ∧ hs.length ≤ 10 ∧ ls.length ≤ 10 ∧
  nm.length ≤ 10 ∧ ru.length ≤ 10 ∧ R vs
def RuD : Nat → Hp → V → Prop
  | 0, H, v => RuB H v fun vs => vs = []
  | n + 1, H, v => RuB H v fun vs => vs.length ≤ 2 ∧ ∀ x ∈ vs, RuD n H x
def KeepT (H H' : Hp) : Prop := ∀ a xs, H a = some (.tup xs) → H' a = some (.tup xs)
theorem KeepT.trans {H H1 H2 : Hp} (a : KeepT H H1) (b : KeepT H1 H2) : KeepT H H2 := fun p xs h => b p xs (a p xs h)
theorem KeepT.of {H H' : Hp} (e : Ex H H') : KeepT H H' := fun a xs h => e a _ h
theorem KeepT.upd {H : Hp} {l : Addr} {xs : List V} {o : HO} (h : H l = some (.lst xs)) : KeepT H (upd H l o) := fun a ys q => ex_updL h q (fun _ z => nomatch z)
theorem RuB.keep {H H' : Hp} {v : V} {R R' : List V → Prop} (e : KeepT H H') (r : ∀ vs, R vs → R' vs) (h : RuB H v R) : RuB H' v R' := by
  obtain ⟨t, a, b, i, vs, nm, hs, ls, ru, h1, h2, h3, h4, h5, h6, h7, h8, h9, h10, h11, h12⟩ := h
  exact ⟨t, a, b, i, vs, nm, hs, ls, ru, h1, e _ _ h2, e _ _ h3, e _ _ h4, e _ _ h5, h6, h7, h8, h9, h10, h11, r vs h12⟩
theorem RuD.keep {H H' : Hp} (e : KeepT H H') : ∀ {n : Nat} {v : V}, RuD n H v → RuD n H' v
  | 0, v, h => RuB.keep e (fun vs q => q) h
  | n + 1, v, h => RuB.keep e (fun vs q => ⟨q.1, fun x hx => RuD.keep e (q.2 x hx)⟩) h
theorem Xc.then_ {M N : List Addr} {H H1 H2 : Hp} (a : Xc M H H1) (b : Xc N H1 H2) (s : ∀ x ∈ N, x ∈ M ∨ H x = none) : Xc M H H2 := fun p o n h => b p o (fun m => by
  rcases s p m with q | q
  · exact n q
  · rw [h] at q
    cases q) (a p o n h)
section
variable {P : Program} {w : World} {K : Frag} {mg : Str → Option Value} {base : Heap}
def spRule (m : Nat) : Sp := fun vs H Q _ => ∃ (h c fa nl : Addr) (fs ns : List Str) (n : Nat), vs = [.ref h, .ref fa, .ref nl, .int n] ∧ n < m ∧ Dw H h c ∧ nl ≠ h ∧ nl ≠ c ∧ ST H fa fs ∧ Sh fs ∧ fs.length ≤ 10 ∧ SL H nl ns ∧ ns ≠ [] ∧ Sh ns ∧ ns.length ≤ 12 ∧
  ∀ v H' ns', Xc [h, c, nl] H H' → Dw H' h c → SL H' nl ns' → Sh ns' → ns'.length ≤ 12 → RuD n H' v → Q v H'
theorem pick3 {r : Int} (h0 : 0 ≤ r) (h1 : r < 3) : ∃ ru : Str, atI ((["fine", "free", "warn"] : List Str).map V.str) r = some (.str ru) ∧ ru.length ≤ 10 := by
  obtain ⟨k, rfl⟩ : ∃ k : Nat, r = (k : Int) := ⟨r.toNat, by omega⟩
  have hk : k < 3 := by omega
  refine ⟨wd ["fine", "free", "warn"] k, at_str (by show k < 3; exact hk), ?_⟩
  match k, hk with
  | 0, _ => decide
  | 1, _ => decide
  | 2, _ => decide
theorem sc_l_rule : FnScope ["_law_h", "_law_facts_here", "_law_names", "_law_deep", "_law_name", "_law_sides_here", "_law_ruling", "_law_inner", "_law_k"] ["_law_h", "_law_facts_here", "_law_names", "_law_deep"] (defScope sRule) := ⟨rfl, rfl, rfl, by decide +kernel, rfl, by decide +kernel, by decide +kernel⟩
theorem ok_l_rule_step (T : TX P K mg) {m : Nat} (G_l_rule : OkF P w K mg base CX0 (2 + m) (ga K "_law_rule") ["_law_h", "_law_facts_here", "_law_names", "_law_deep"] (spRule m)) : OkF P w K mg base CX0 (2 + m + 1) (ga K "_law_rule") ["_law_h", "_law_facts_here", "_law_names", "_law_deep"] (spRule (m + 1)) := by
  refine OkF.mk0 T.d_l_rule sc_l_rule (fun _ _ _ _ _ _ us hl => match us, hl with | [_, _, _, _], _ => rfl) (fun vs H Q E h => ?_) (fun cdv A outs s H vs Q E hr h => ?_)
  · obtain ⟨_, _, _, _, _, _, _, rfl, _⟩ := h; rfl
  obtain ⟨h, c, fa, nl, fs, ns, n, rfl, hnm, D, nh, nc, hF, hFs, hf10, hN, hne, hNs, hn12, q⟩ := h
  refine ⟨_, (pss_cons (ps_par (i := 4) (j := 5) rfl sc_l_rule.nd rfl rfl (by decide) rfl rfl (pa_cons (pe_bm PySem.F.plainAttrs_list PySem.F.slot_list_pop PySem.F.type_list_pop mt_popAt (pv 2) (pa_cons pe_int pa_nil)) (pa_cons (pe_c (ok_l_sides T) hr (by omega) T.g_l_sides (E := E0) passN (pa_cons (pv 0) (pa_cons (pv 1) (pa_cons pe_int pa_nil)))) pa_nil)) rfl)
      (pss_cons (ps_par (i := 6) (j := 7) rfl sc_l_rule.nd rfl rfl (by decide) rfl rfl (pa_cons (pe_ix ix_list (pe_lst (pa_cons pe_str (pa_cons pe_str (pa_cons pe_str pa_nil)))) (pe_c (ok_l_next T) hr (by omega) T.g_l_next (E := E0) passN (pa_cons (pv 0) (pa_cons pe_int pa_nil))) (fun _ _ => rfl)) (pa_cons (pe_lst pa_nil) pa_nil)) rfl)
      (pss_cons (ps_for PassesOwn.never rfl (pi_range1 rfl T.b_range (pa_cons (pe_ifExp (pt_cmpR op_gt (pv 3) pe_int (nomark _)) (pe_c (ok_l_next T) hr (by omega) T.g_l_next (E := E0) passN (pa_cons (pv 0) (pa_cons pe_int pa_nil))) pe_int) pa_nil)) (pg_name (i := 8) sc_l_rule.nd rfl (Or.inl rfl)) (pss_one (ps_if (pt_cmpR (op_neE (hu_of hr)) (pv 2) (pe_lst pa_nil) (nomark _)) (pss_one (ps_expr (pe_bm PySem.F.plainAttrs_list PySem.F.slot_list_append PySem.F.type_list_append mt_append (pv 7) (pa_cons (pe_c G_l_rule hr (by omega) T.g_l_rule (E := E0) passN (pa_cons (pv 0) (pa_cons (pv 1) (pa_cons (pv 2) (pa_cons (pe_op op_sub (pv 3) pe_int) pa_nil))))) pa_nil)))) pss_nil)))
      (pss_one (ps_ret (pe_tup (pa_cons (pv 4) (pa_cons (pe_ix ix_tup (pv 5) pe_int (fun _ _ => rfl)) (pa_cons (pe_ix ix_tup (pv 5) pe_int (fun _ _ => rfl)) (pa_cons (pv 6) (pa_cons (pe_callTy call_tuple_of (by rfl) T.b_tuple (by decide +kernel) (pa_cons (pv 7) pa_nil)) pa_nil))))))))))), ?_⟩
  have hpos : 0 < ns.length := by
    cases ns with
    | nil => exact absurd rfl hne
    | cons a r => show 0 < r.length + 1; omega
  obtain ⟨k, k1, k2, k3, k4, k5⟩ := at_pop (ws := ns) (r := 0) (Int.le_refl 0) (by omega)
  refine op_par (op_cons ⟨_, rfl, .inl ⟨rfl, _, sq_of hN⟩, nl, _, 0, k, _, rfl, rfl, hN, k2, by decide, k4, k5, op_cons ?_⟩)
  have hz := hNs.wd k1
  have a1 : Xc [h, c, nl] H (upd H nl (.lst ((ns.map V.str).eraseIdx k))) := (Xc.of (Ex.refl H)).mut (.inl (by simp))
  have t1 : KeepT H (upd H nl (.lst ((ns.map V.str).eraseIdx k))) := KeepT.upd hN
  have D1 := D.upd (o := .lst ((ns.map V.str).eraseIdx k)) nh nc
  have hN1 : SL (upd H nl (.lst ((ns.map V.str).eraseIdx k))) nl (ns.eraseIdx k) := by
    show upd H nl _ nl = _
    rw [upd_same, erase_str]
  revert a1 t1 D1 hN1
  generalize upd H nl (.lst ((ns.map V.str).eraseIdx k)) = H1
  intro a1 t1 D1 hN1
  refine go_k (ea_cons (ev_var rfl) (ea_cons (ev_var rfl) (ea_cons ev_c ea_nil))) fun H2 e2 => ?_
  refine ⟨h, c, fa, fs, 2, rfl, D1.mono e2, e2 _ _ (t1 _ _ hF), hFs, hf10, by omega, fun t a b hs ls H3 x3 D3 hT hA hB sA sB lA lB => ⟨_, _, rfl, ?_⟩⟩
  have sub2 : ∀ x ∈ [h, c], x ∈ [h, c, nl] := fun x hx => by
    rcases List.mem_cons.mp hx with e | e
    · simp [e]
    · simp [List.mem_singleton.mp e]
  have a3 : Xc [h, c, nl] H H3 := (a1.trans (Xc.of e2)).trans (x3.more sub2)
  have keepN : ∀ {H1 H2 : Hp} {l : Addr} {ws : List Str}, Xc [h, c] H1 H2 → l ≠ h → l ≠ c → SL H1 l ws → SL H2 l ws := fun x a b s => x _ _ (by simp [a, b]) s
  have hN3 := keepN x3 nh nc (e2 _ _ hN1)
  -- the ruling
  refine op_par (op_cons (op_op ?_))
  refine el_lst (vs := (["fine", "free", "warn"] : List Str).map V.str) (ea_cons ev_c (ea_cons ev_c (ea_cons ev_c ea_nil))) (by show 3 ≤ 100000; decide) H3 (Ex.refl H3) _ fun p H4 hp e4 h4 => ?_
  have D4 := D3.mono e4
  refine go_next D4 rfl (n := 3) ev_c (by decide) (by decide) fun r H5 x5 D5 r0 r1 => ?_
  obtain ⟨np1, np2⟩ := new_ne D3 hp
  obtain ⟨ru, hru, hrl⟩ := pick3 r0 r1
  refine ⟨p, _, r, _, rfl, rfl, sq_of (x5 _ _ (by simp [np1, np2]) h4), hru, op_cons ⟨Nat.zero_le _, fun il hil => ⟨_, _, rfl, ?_⟩⟩⟩
  have t35 : KeepT H3 H5 := (KeepT.of e4).trans fun _ _ => x5.tup D4.lst
  have a5 : Xc [h, c, nl] H H5 := (a3.trans (Xc.of e4)).trans (x5.more sub2)
  have hN5 := keepN x5 nh nc (e4 _ _ hN3)
  obtain ⟨ni1, ni2⟩ := new_ne D5 hil
  have nin : il ≠ nl := (ne_of_none hN5 hil).symm
  have e6 : Ex H5 (upd H5 il (.lst [])) := Ex.new hil
  have hI6 : upd H5 il (.lst []) il = some (.lst []) := upd_same
  have fi : ∀ {a : Addr} {o : HO}, a ≠ h → a ≠ c → a ≠ nl → H a = some o → a ≠ il := fun n1 n2 n3 ha e => by
    have := a5 _ _ (by simp [n1, n2, n3]) ha
    rw [e, hil] at this
    cases this
  have a6 : Xc [h, c, nl] H (upd H5 il (.lst [])) := a5.trans (Xc.of e6)
  have D6 := D5.mono e6
  have hN6 := e6 _ _ hN5
  have t36 : KeepT H3 (upd H5 il (.lst [])) := t35.trans (KeepT.of e6)
  have hil0 : H il = none := by
    cases z : H il with
    | none => rfl
    | some o => exact absurd rfl (fi ni1 ni2 nin z)
  revert e6 hI6 a6 D6 hN6 t36
  generalize upd H5 il (.lst []) = H6
  intro e6 hI6 a6 D6 hN6 t36
  refine q_forRN (j := 8) (fun j H7 => 0 ≤ j ∧ j ≤ 2 ∧ (n = 0 → j = 0) ∧ Xc [h, c, nl] H H7 ∧ KeepT H3 H7 ∧ Dw H7 h c ∧ SL H7 nl (ns.eraseIdx k) ∧ H7 il = some (.lst [])) (fun R kk => ?_)
    (fun j i σ' H' => j ≤ 2 ∧ (n = 0 → j = 0) ∧ ∃ ns' vs x8, σ' = [some (.ref h), some (.ref fa), some (.ref nl), some (.int n), some (.str (wd ns k)), some (.ref t), some (.str ru), some (.ref il), x8] ∧ Xc [h, c, nl] H H' ∧ KeepT H3 H' ∧ Dw H' h c ∧ SL H' nl ns' ∧ Sh ns' ∧ ns'.length ≤ 12 ∧ H' il = some (.lst vs) ∧ vs.length ≤ i ∧ (n = 0 → vs = []) ∧ ∀ x ∈ vs, RuD (n - 1) H' x)
    (fun j H7 hB => ⟨hB.2.1, hB.2.2.1, ns.eraseIdx k, [], none, rfl, hB.2.2.2.1, hB.2.2.2.2.1, hB.2.2.2.2.2.1, hB.2.2.2.2.2.2.1, hNs.erase, by rw [List.length_eraseIdx_of_lt k1]; omega, hB.2.2.2.2.2.2.2, Nat.le_refl _, fun _ => rfl, fun x hx => by cases hx⟩) (fun j i σ' H' hi p => ?_) (fun j σ' H' p => ?_)
  · refine op_cons (go_if (et_test (ev_op (ev_var rfl) ev_c rv_I0)) (fun hb H7 e7 => ?_) (fun hb H7 e7 => ?_))
    · have hn0 := of_decide_eq_true hb
      refine go_next (D6.mono e7) rfl (n := 3) ev_c (by decide) (by decide) fun r2 H8 x8 D8 r20 r21 => ?_
      exact kk r2 H8 r20 (by omega) ⟨r20, by omega, fun z => by omega, (a6.trans (Xc.of e7)).trans (x8.more sub2), (t36.trans (KeepT.of e7)).trans (fun _ _ => x8.tup (D6.mono e7).lst), D8, keepN x8 nh nc (e7 _ _ hN6), x8 _ _ (by simp [ni1, ni2]) (e7 _ _ hI6)⟩
    · exact kk 0 H7 (Int.le_refl 0) (by omega) ⟨Int.le_refl 0, by omega, fun _ => rfl, a6.trans (Xc.of e7), t36.trans (KeepT.of e7), D6.mono e7, e7 _ _ hN6, e7 _ _ hI6⟩
  · obtain ⟨hj2, hj0, ns', vs, x8, rfl, b1, b2, b3, b4, b5, b6, b7, b8, b9, b10⟩ := p
    have hn0 : n ≠ 0 := fun z => by
      have := hj0 z
      omega
    refine s_when (et_test (ev_neE (ev_var rfl) (sq_of b4) el_nil)) (fun hb H7 e7 => ?_) (fun hb H7 e7 => ?_)
    · have hne' : ns' ≠ [] := by
        rw [map_nil_dec] at hb
        simpa using hb
      refine ⟨_, rfl, .inl ⟨rfl, _, sq_of (e7 _ _ b7)⟩, op_cons ?_⟩
      refine go_k (ea_cons (ev_var rfl) (ea_cons (ev_var rfl) (ea_cons (ev_var rfl) (ea_cons (ev_is (ev_op (ev_var rfl) ev_c rv_I0) (show V.int ((n : Int) - 1) = .int ((n - 1 : Nat) : Int) by congr 1; omega)) ea_nil)))) fun H8 e8 => ?_
      have e78 := e7.trans e8
      have hF8 : ST H8 fa fs := e78 _ _ (b2 _ _ (by
        have := x3.tup (D1.mono e2).lst (e2 _ _ (t1 _ _ hF))
        exact this))
      refine ⟨h, c, fa, nl, fs, ns', n - 1, rfl, by omega, b3.mono e78, nh, nc, hF8, hFs, hf10, e78 _ _ b4, hne', b5, b6, fun v H9 ns2 x9 D9 hN9 sN9 lN9 hv => ?_⟩
      have lst8 : ∀ m ∈ [h, c, nl], ∃ xs, H8 m = some (.lst xs) := fun m hm => by
        rcases List.mem_cons.mp hm with e | e
        · exact (b3.mono e78).lst m (by simp [e])
        · rcases List.mem_cons.mp e with e | e
          · exact (b3.mono e78).lst m (by simp [e])
          · exact ⟨_, (List.mem_singleton.mp e) ▸ e78 _ _ b4⟩
      have t9 : KeepT H' H9 := (KeepT.of e78).trans fun _ _ => x9.tup lst8
      have hI9 : H9 il = some (.lst vs) := x9 _ _ (by simp [ni1, ni2, nin]) (e78 _ _ b7)
      have t10 : KeepT H' (upd H9 il (.lst (vs ++ [v]))) := t9.trans (KeepT.upd hI9)
      refine ⟨il, vs, v, rfl, rfl, hI9, sz_lt (by omega), hj2, hj0, ns2, vs ++ [v], _, rfl, ((b1.trans (Xc.of e78)).trans x9).mut (.inr hil0), b2.trans t10, D9.upd ni1 ni2, ?_, sN9, lN9, upd_same, by rw [List.length_append, List.length_singleton]; omega, fun z => absurd z hn0, fun x hx => ?_⟩
      · show upd H9 il _ nl = _
        rw [upd_ne nin.symm]
        exact hN9
      · rcases List.mem_append.mp hx with z | z
        · exact (b10 x z).keep t10
        · rw [List.mem_singleton.mp z]
          exact hv.keep (KeepT.upd hI9)
    · exact ⟨hj2, hj0, ns', vs, _, rfl, b1.trans (Xc.of e7), b2.trans (KeepT.of e7), b3.mono e7, e7 _ _ b4, b5, b6, e7 _ _ b7, by omega, b9, fun x hx => (b10 x hx).keep (KeepT.of e7)⟩
  · obtain ⟨hj2, hj0, ns', vs, x8, rfl, b1, b2, b3, b4, b5, b6, b7, b8, b9, b10⟩ := p
    refine op_ret (op_cons ⟨_, rfl, op_cons ?_⟩)
    refine (ev_op (ev_var rfl) ev_c (rv_ixT (st_of (b2 _ _ hT)) (at_eq (atI_nat (j := 0) rfl) rfl))) H' (Ex.refl H') _ fun H7 e7 => op_cons ?_
    refine (ev_op (ev_var rfl) ev_c (rv_ixT (st_of (e7 _ _ (b2 _ _ hT))) (at_eq (atI_nat (j := 1) rfl) rfl))) H7 (Ex.refl H7) _ fun H8 e8 => op_cons ⟨_, rfl, op_cons ⟨_, rfl, il, vs, rfl, .inl ⟨sq_of (e8 _ _ (e7 _ _ b7)), fun ti hti => ⟨by show 5 ≤ sizeLine; decide, fun t9 ht9 => ?_⟩⟩⟩⟩
    have e79 : Ex H' (upd (upd H8 ti (.tup vs)) t9 (.tup [.str (wd ns k), .ref a, .ref b, .str ru, .ref ti])) := ((e7.trans e8).trans (Ex.new hti)).trans (Ex.new ht9)
    have hti9 : upd (upd H8 ti (.tup vs)) t9 (.tup [.str (wd ns k), .ref a, .ref b, .str ru, .ref ti]) ti = some (.tup vs) := Ex.new ht9 _ _ upd_same
    have ht99 : upd (upd H8 ti (.tup vs)) t9 (.tup [.str (wd ns k), .ref a, .ref b, .str ru, .ref ti]) t9 = some (.tup [.str (wd ns k), .ref a, .ref b, .str ru, .ref ti]) := upd_same
    refine q (.ref t9) _ ns' (b1.trans (Xc.of e79)) (b3.mono e79) (e79 _ _ b4) b5 b6 ?_
    have RB : ∀ R : List V → Prop, R vs → RuB (upd (upd H8 ti (.tup vs)) t9 (.tup [.str (wd ns k), .ref a, .ref b, .str ru, .ref ti])) (.ref t9) R := fun R hR =>
      ⟨t9, a, b, ti, vs, wd ns k, hs, ls, ru, rfl, ht99, e79 _ _ (b2 _ _ hA), e79 _ _ (b2 _ _ hB), hti9, sA, sB, lA, lB, hz, hrl, hR⟩
    match n, b8, b9, b10, hj0 with
    | 0, b8, b9, b10, hj0 => exact RB _ (b9 rfl)
    | n + 1, b8, b9, b10, hj0 => exact RB _ ⟨by omega, fun x hx => (b10 x hx).keep (KeepT.of e79)⟩
theorem ok_l_rule (T : TX P K mg) : ∀ m : Nat, OkF P w K mg base CX0 (2 + m) (ga K "_law_rule") ["_law_h", "_law_facts_here", "_law_names", "_law_deep"] (spRule m)
  | 0 => OkF.vac T.d_l_rule (fun _ _ _ _ _ _ us hl => match us, hl with | [_, _, _, _], _ => rfl) fun vs H Q E h => by
    obtain ⟨h, c, fa, nl, fs, ns, n, _, h1, _⟩ := h
    omega
  | m + 1 => ok_l_rule_step T (ok_l_rule T m)
end
end K56
set_option Elab.async false
set_option linter.all false
set_option maxRecDepth 100000
set_option maxHeartbeats 4000000
/-! K56, part D20: a book drawn, its words. -/
namespace K56
open PySem PySem.W PyProof.Rows L2 Evl He
section
variable {P : Program} {w : World} {K : Frag} {mg : Str → Option Value} {base : Heap}
def spDrawn : Sp := fun vs H Q _ => ∃ (h c fa : Addr) (fs : List Str) (n : Nat), vs = [.ref h, .ref fa, .int n] ∧ Dw H h c ∧ ST H fa fs ∧ Sh fs ∧ fs.length ≤ 10 ∧ n ≤ 10 ∧
  ∀ t ra xs ru H', Xc [h, c] H H' → Dw H' h c → H' t = some (.tup [.ref fa, .ref ra, .str ru]) → ST H' fa fs → H' ra = some (.tup xs) → xs.length ≤ n → (∀ x ∈ xs, RuD 2 H' x) → ru.length ≤ 10 → Q (.ref t) H'
theorem sc_l_drawn : FnScope ["_law_h", "_law_facts_here", "_law_most", "_law_names", "_law_rules", "_law_k"] ["_law_h", "_law_facts_here", "_law_most"] (defScope sDrawn) := ⟨rfl, rfl, rfl, by decide +kernel, rfl, by decide +kernel, by decide +kernel⟩
theorem ok_l_drawn (T : TX P K mg) : OkF P w K mg base CX0 (5 + 1) (ga K "_law_drawn") ["_law_h", "_law_facts_here", "_law_most"] spDrawn := by
  refine OkF.mk0 T.d_l_drawn sc_l_drawn (fun _ _ _ _ _ _ us hl => match us, hl with | [_, _, _], _ => rfl) (fun vs H Q E h => ?_) (fun cdv A outs s H vs Q E hr h => ?_)
  · obtain ⟨_, _, _, _, _, rfl, _⟩ := h; rfl
  obtain ⟨h, c, fa, fs, n, rfl, D, hF, hFs, hf10, hn10, q⟩ := h
  refine ⟨_, (pss_cons (ps_par (i := 3) (j := 4) rfl sc_l_drawn.nd rfl rfl (by decide) rfl rfl (pa_cons (pe_lst (pa_cons pe_str (pa_cons pe_str (pa_cons pe_str (pa_cons pe_str (pa_cons pe_str (pa_cons pe_str (pa_cons pe_str (pa_cons pe_str (pa_cons pe_str (pa_cons pe_str (pa_cons pe_str (pa_cons pe_str pa_nil))))))))))))) (pa_cons (pe_lst pa_nil) pa_nil)) rfl)
      (pss_cons (ps_set (i := 3) sc_l_drawn.nd rfl (Or.inl rfl) (pe_slice sl_list (pv 3) (po_some (pe_c (ok_l_next T) hr (by omega) T.g_l_next (E := E0) passN (pa_cons (pv 0) (pa_cons pe_int pa_nil)))) po_none))
      (pss_cons (ps_for PassesOwn.never rfl (pi_range1 rfl T.b_range (pa_cons (pe_c (ok_l_next T) hr (by omega) T.g_l_next (E := E0) passN (pa_cons (pv 0) (pa_cons (pe_op op_add (pv 2) pe_int) pa_nil))) pa_nil)) (pg_name (i := 5) sc_l_drawn.nd rfl (Or.inl rfl)) (pss_one (ps_if (pt_cmpR (op_neE (hu_of hr)) (pv 3) (pe_lst pa_nil) (nomark _)) (pss_one (ps_expr (pe_bm PySem.F.plainAttrs_list PySem.F.slot_list_append PySem.F.type_list_append mt_append (pv 4) (pa_cons (pe_c (ok_l_rule T 3) hr (by omega) T.g_l_rule (E := E0) passN (pa_cons (pv 0) (pa_cons (pv 1) (pa_cons (pv 3) (pa_cons pe_int pa_nil))))) pa_nil)))) pss_nil)))
      (pss_one (ps_ret (pe_tup (pa_cons (pv 1) (pa_cons (pe_callTy call_tuple_of (by rfl) T.b_tuple (by decide +kernel) (pa_cons (pv 4) pa_nil)) (pa_cons (pe_ix ix_list (pe_lst (pa_cons pe_str (pa_cons pe_str (pa_cons pe_str pa_nil)))) (pe_c (ok_l_next T) hr (by omega) T.g_l_next (E := E0) passN (pa_cons (pv 0) (pa_cons pe_int pa_nil))) (fun _ _ => rfl)) pa_nil))))))))), ?_⟩
  obtain ⟨N12, hN12⟩ : ∃ N : List Str, N = (["hue", "ox", "ab", "ivy", "tar", "bay", "elm", "sun", "cat", "zed", "kin", "rye"] : List Str) := ⟨_, rfl⟩
  have s12 : Sh N12 := by rw [hN12]; unfold Sh; decide +kernel
  have l12 : N12.length = 12 := by rw [hN12]; rfl
  refine op_par (op_cons (el_lst (vs := N12.map V.str) (by rw [hN12]; exact ea_cons ev_c (ea_cons ev_c (ea_cons ev_c (ea_cons ev_c (ea_cons ev_c (ea_cons ev_c (ea_cons ev_c (ea_cons ev_c (ea_cons ev_c (ea_cons ev_c (ea_cons ev_c (ea_cons ev_c ea_nil)))))))))))) (by rw [List.length_map]; omega) H (Ex.refl H) _ fun p0 H0 hp0 e0 h0 => op_cons ⟨Nat.zero_le _, fun il hil => ⟨_, _, rfl, ?_⟩⟩))
  obtain ⟨np1, np2⟩ := new_ne D hp0
  have e1 : Ex H (upd H0 il (.lst [])) := e0.trans (Ex.new hil)
  have hI1 : upd H0 il (.lst []) il = some (.lst []) := upd_same
  have hp1 : SL (upd H0 il (.lst [])) p0 N12 := Ex.new hil _ _ h0
  have hil0 : H il = none := fresh_back e0 hil
  obtain ⟨ni1, ni2⟩ := new_ne D hil0
  revert e1 hI1 hp1
  generalize upd H0 il (.lst []) = H1
  intro e1 hI1 hp1
  -- the names from a place on
  refine op_asg ⟨_, rfl, ?_⟩
  refine go_next (D.mono e1) rfl (n := 4) ev_c (by decide) (by decide) fun r H2 x2 D2 r0 r1 => ⟨r, rfl, p0, _, rfl, sq_of (x2 _ _ (by simp [np1, np2]) hp1), fun nl hnl => ?_⟩
  have a3 : Xc [h, c] H (upd H2 nl (.lst (cutV (N12.map V.str) (some r) none))) := ((Xc.of e1).trans x2).trans (Xc.of (Ex.new hnl))
  have t3 : KeepT H (upd H2 nl (.lst (cutV (N12.map V.str) (some r) none))) := ((KeepT.of e1).trans fun _ _ => x2.tup (D.mono e1).lst).trans (KeepT.of (Ex.new hnl))
  have D3 : Dw (upd H2 nl (.lst (cutV (N12.map V.str) (some r) none))) h c := D2.mono (Ex.new hnl)
  have hI3 : upd H2 nl (.lst (cutV (N12.map V.str) (some r) none)) il = some (.lst []) := Ex.new hnl _ _ (x2 _ _ (by simp [ni1, ni2]) hI1)
  obtain ⟨nn1, nn2⟩ := new_ne D2 hnl
  have hnl0 : H nl = none := by
    cases z : H nl with
    | none => rfl
    | some o =>
      have := ((Xc.of e1).trans x2) nl o (by simp [nn1, nn2]) z
      rw [hnl] at this
      cases this
  have nin : il ≠ nl := fun e => by
    have := x2 _ _ (by simp [ni1, ni2]) hI1
    rw [e, hnl] at this
    cases this
  obtain ⟨k, rfl⟩ : ∃ k : Nat, r = (k : Int) := ⟨r.toNat, by omega⟩
  have hN3 : SL (upd H2 nl (.lst (cutV (N12.map V.str) (some (k : Int)) none))) nl (N12.drop k) := by
    show upd H2 nl _ nl = _
    rw [upd_same, cut_from (by rw [List.length_map]; omega), List.map_drop]
  revert a3 t3 D3 hI3 hN3
  generalize upd H2 nl (.lst (cutV (N12.map V.str) (some (k : Int)) none)) = H3
  intro a3 t3 D3 hI3 hN3
  have keepN : ∀ {H1 H2 : Hp} {l : Addr} {ws : List Str}, Xc [h, c] H1 H2 → l ≠ h → l ≠ c → SL H1 l ws → SL H2 l ws := fun x a b s => x _ _ (by simp [a, b]) s
  refine q_forRN (j := 5) (fun j H7 => 0 ≤ j ∧ j ≤ n ∧ Xc [h, c] H H7 ∧ KeepT H H7 ∧ Dw H7 h c ∧ SL H7 nl (N12.drop k) ∧ H7 il = some (.lst [])) (fun R kk => ?_)
    (fun j i σ' H' => j ≤ n ∧ (i : Int) ≤ j ∧ ∃ ns' xs x5, σ' = [some (.ref h), some (.ref fa), some (.int n), some (.ref nl), some (.ref il), x5] ∧ Xc [h, c] H H' ∧ KeepT H H' ∧ Dw H' h c ∧ SL H' nl ns' ∧ Sh ns' ∧ ns'.length ≤ 12 ∧ H' il = some (.lst xs) ∧ xs.length ≤ i ∧ ∀ x ∈ xs, RuD 2 H' x)
    (fun j H7 hB => ⟨hB.2.1, hB.1, N12.drop k, [], none, rfl, hB.2.2.1, hB.2.2.2.1, hB.2.2.2.2.1, hB.2.2.2.2.2.1, fun z hz => s12 z (List.mem_of_mem_drop hz), by rw [List.length_drop]; omega, hB.2.2.2.2.2.2, Nat.le_refl _, fun x hx => by cases hx⟩) (fun j i σ' H' hi p => ?_) (fun j σ' H' p => ?_)
  · refine op_cons ?_
    refine go_next D3 rfl (n := (n : Int) + 1) (ev_op (ev_var rfl) ev_c rv_I0) (by omega) (by omega) fun r2 H8 x8 D8 r20 r21 => ?_
    exact kk r2 H8 r20 (by omega) ⟨r20, by omega, a3.trans x8, t3.trans (fun _ _ => x8.tup D3.lst), D8, keepN x8 nn1 nn2 hN3, x8 _ _ (by simp [ni1, ni2]) hI3⟩
  · obtain ⟨hjn, hij, ns', xs, x5, rfl, b1, b2, b3, b4, b5, b6, b7, b8, b9⟩ := p
    refine s_when (et_test (ev_neE (ev_var rfl) (sq_of b4) el_nil)) (fun hb H7 e7 => ?_) (fun hb H7 e7 => ?_)
    · have hne' : ns' ≠ [] := by
        rw [map_nil_dec] at hb
        simpa using hb
      refine ⟨_, rfl, .inl ⟨rfl, _, sq_of (e7 _ _ b7)⟩, op_cons ?_⟩
      refine go_k (ea_cons (ev_var rfl) (ea_cons (ev_var rfl) (ea_cons (ev_var rfl) (ea_cons ev_c ea_nil)))) fun H8 e8 => ?_
      have e78 := e7.trans e8
      refine ⟨h, c, fa, nl, fs, ns', 2, rfl, by omega, b3.mono e78, nn1, nn2, e78 _ _ (b2 _ _ hF), hFs, hf10, e78 _ _ b4, hne', b5, b6, fun v H9 ns2 x9 D9 hN9 sN9 lN9 hv => ?_⟩
      have lst8 : ∀ m ∈ [h, c, nl], ∃ xs, H8 m = some (.lst xs) := fun m hm => by
        rcases List.mem_cons.mp hm with e | e
        · exact (b3.mono e78).lst m (by simp [e])
        · rcases List.mem_cons.mp e with e | e
          · exact (b3.mono e78).lst m (by simp [e])
          · exact ⟨_, (List.mem_singleton.mp e) ▸ e78 _ _ b4⟩
      have t9 : KeepT H' H9 := (KeepT.of e78).trans fun _ _ => x9.tup lst8
      have hI9 : H9 il = some (.lst xs) := x9 _ _ (by simp [ni1, ni2, nin]) (e78 _ _ b7)
      have t10 : KeepT H' (upd H9 il (.lst (xs ++ [v]))) := t9.trans (KeepT.upd hI9)
      refine ⟨il, xs, v, rfl, rfl, hI9, sz_lt (by omega), hjn, by omega, ns2, xs ++ [v], _, rfl, ((b1.trans (Xc.of e78)).then_ x9 (fun y hy => ?_)).mut (.inr hil0), b2.trans t10, D9.upd ni1 ni2, ?_, sN9, lN9, upd_same, by rw [List.length_append, List.length_singleton]; omega, fun x hx => ?_⟩
      · rcases List.mem_cons.mp hy with e | e
        · exact .inl (by simp [e])
        · rcases List.mem_cons.mp e with e | e
          · exact .inl (by simp [e])
          · rw [List.mem_singleton.mp e]
            exact .inr hnl0
      · show upd H9 il _ nl = _
        rw [upd_ne nin.symm]
        exact hN9
      · rcases List.mem_append.mp hx with z | z
        · exact (b9 x z).keep t10
        · rw [List.mem_singleton.mp z]
          exact hv.keep (KeepT.upd hI9)
    · exact ⟨hjn, by omega, ns', xs, _, rfl, b1.trans (Xc.of e7), b2.trans (KeepT.of e7), b3.mono e7, e7 _ _ b4, b5, b6, e7 _ _ b7, by omega, fun x hx => (b9 x hx).keep (KeepT.of e7)⟩
  · obtain ⟨hjn, hij, ns', xs, x5, rfl, b1, b2, b3, b4, b5, b6, b7, b8, b9⟩ := p
    refine op_ret (op_cons ⟨_, rfl, op_cons ⟨_, rfl, il, xs, rfl, .inl ⟨sq_of b7, fun ti hti => op_cons (op_op ?_)⟩⟩⟩)
    have e8 : Ex H' (upd H' ti (.tup xs)) := Ex.new hti
    have h8 : upd H' ti (.tup xs) ti = some (.tup xs) := upd_same
    revert e8 h8
    generalize upd H' ti (.tup xs) = H8
    intro e8 h8
    refine el_lst (vs := (["fine", "free", "warn"] : List Str).map V.str) (ea_cons ev_c (ea_cons ev_c (ea_cons ev_c ea_nil))) (by show 3 ≤ 100000; decide) H8 (Ex.refl H8) _ fun p H9 hp e9 h9 => ?_
    have D9 := (b3.mono e8).mono e9
    obtain ⟨nq1, nq2⟩ := new_ne (b3.mono e8) hp
    refine go_next D9 rfl (n := 3) ev_c (by decide) (by decide) fun r3 H10 x10 D10 r30 r31 => ?_
    obtain ⟨ru, hru, hrl⟩ := pick3 r30 r31
    refine ⟨p, _, r3, _, rfl, rfl, sq_of (x10 _ _ (by simp [nq1, nq2]) h9), hru, by show 3 ≤ sizeLine; decide, fun t ht => ?_⟩
    have e11 : Ex H10 (upd H10 t (.tup [.ref fa, .ref ti, .str ru])) := Ex.new ht
    have t10 : KeepT H8 (upd H10 t (.tup [.ref fa, .ref ti, .str ru])) := ((KeepT.of e9).trans fun _ _ => x10.tup D9.lst).trans (KeepT.of e11)
    have t10' : KeepT H' (upd H10 t (.tup [.ref fa, .ref ti, .str ru])) := (KeepT.of e8).trans t10
    refine q t ti xs ru _ (((b1.trans (Xc.of (e8.trans e9))).trans x10).trans (Xc.of e11)) (D10.mono e11) upd_same (t10' _ _ (b2 _ _ hF)) (t10 _ _ h8) (by omega) (fun x hx => (b9 x hx).keep t10') hrl
end
/-! ### words -/
def cnt : Nat → Nat
  | 0 => 1
  | n + 1 => 1 + 2 * cnt n
/-- a row made anew: few short words -/
def RowS (H H' : Hp) (v : V) : Prop := ∃ a ws, v = .ref a ∧ SL H' a ws ∧ ws.length ≤ 30 ∧ Sh ws ∧ H a = none
theorem RowS.mono {H H1 H2 : Hp} {v : V} (h : RowS H H1 v) (e : Ex H1 H2) : RowS H H2 v := by
  obtain ⟨a, ws, h1, h2, h3⟩ := h
  exact ⟨a, ws, h1, e _ _ h2, h3⟩
theorem RowS.back {H H0 H2 : Hp} {v : V} (h : RowS H0 H2 v) (e : Ex H H0) : RowS H H2 v := by
  obtain ⟨a, ws, h1, h2, h3, h4, h5⟩ := h
  exact ⟨a, ws, h1, h2, h3, h4, fresh_back e h5⟩
theorem RowS.updL {H H2 : Hp} {v : V} {l : Addr} {o : HO} (h : RowS H H2 v) (n : v ≠ .ref l) : RowS H (upd H2 l o) v := by
  obtain ⟨a, ws, h1, h2, h3⟩ := h
  exact ⟨a, ws, h1, by show upd H2 l o a = _; rw [upd_ne (fun e => n (by rw [h1, e]))]; exact h2, h3⟩
theorem rep_str (d : Nat) (z : Str) : (List.replicate ((d : Nat) : Int).toNat [V.str z]).flatten = (List.replicate d z).map V.str := by
  show (List.replicate d [V.str z]).flatten = _
  induction d with
  | zero => rfl
  | succ d ih =>
    rw [List.replicate_succ, List.replicate_succ, List.flatten_cons, ih]
    rfl
theorem Sh.rep {d : Nat} {z : Str} (h : z.length ≤ 10) : Sh (List.replicate d z) := fun y hy => by
  rw [List.eq_of_mem_replicate hy]
  exact h
def opt (key : Str) (ws : List Str) : List Str := if ws = [] then [] else key :: ws
theorem opt_len (key : Str) (ws : List Str) : (opt key ws).length ≤ ws.length + 1 := by
  unfold opt
  split
  · exact Nat.zero_le _
  · rw [List.length_cons]
    omega
theorem opt_sh {key : Str} {ws : List Str} (h : key.length ≤ 10) (h2 : Sh ws) : Sh (opt key ws) := by
  unfold opt
  split
  · exact Sh.nil
  · exact (Sh.one h).app h2
section
variable {K : Frag} {σ : L2.St} {H : Hp} {ta tb te : TE} {xs : List V}
theorem el_rep {k : Nat} (ha : EvL ta σ H xs) (hb : Ev tb σ H (.int (k : Nat))) (hk : k ≤ 1000) (hz : xs.length ≤ 10) : EvL (tOp rRep ta tb) σ H (List.replicate ((k : Nat) : Int).toNat xs).flatten := fun H1 e Q q =>
  ha H1 e _ fun p H2 hp e2 h2 => hb H2 (e.trans e2) _ fun H3 e3 => ⟨p, (k : Int), xs, rfl, rfl, e3 _ _ h2, by omega, by omega, sz_of (by
    show xs.length * k ≤ 100000
    have := Nat.mul_le_mul hz hk
    omega), fun r hr => q r _ (fresh_back (e2.trans e3) hr) ((e2.trans e3).trans (Ex.new hr)) upd_same⟩
theorem el_listT {p : Addr} (ha : Ev ta σ H (.ref p)) (h : SqT K H p xs) : EvL (tCB (rListS K) (tCons ta tNil)) σ H xs := fun H1 e Q q =>
  ha H1 e _ fun H2 e2 => ⟨p, xs, rfl, Or.inr (ex_t (e.trans e2) h), fun l hl => q l _ (fresh_back e2 hl) (e2.trans (Ex.new hl)) upd_same⟩
/-- [key] + list(t) if t != () else [] -/
theorem el_opt {key : Str} {a : Addr} {ws : List Str} (hv : Ev ta σ H (.ref a)) (h : ST H a ws) (hl : ws.length ≤ 1000) :
    EvL (tIf (tTest (tOp (rNeE K) ta (tTup tNil))) (tOp rCat (tLst (tCons (tC (.str key)) tNil)) (tCB (rListS K) (tCons ta tNil))) (tLst tNil)) σ H ((opt key ws).map V.str) := by
  refine el_if (et_test (ev_neET hv (st_of h) eu_nil)) (fun hb => ?_) (fun hb => ?_)
  · have hne : ws ≠ [] := by
      rw [map_nil_dec] at hb
      simpa using hb
    have : (opt key ws).map V.str = [V.str key] ++ ws.map V.str := by
      unfold opt
      rw [if_neg hne]
      rfl
    rw [this]
    exact el_catNN (el_lst (ea_cons ev_c ea_nil) (by show 1 ≤ 100000; decide)) (el_listT hv (st_of h)) (by rw [List.length_map]; show 1 + ws.length ≤ 100000; omega)
  · have hn : ws = [] := by
      rw [map_nil_dec] at hb
      simpa using hb
    have : (opt key ws).map V.str = [] := by
      unfold opt
      rw [if_pos hn]
      rfl
    rw [this]
    exact el_nil
end
section
variable {P : Program} {w : World} {K : Frag} {mg : Str → Option Value} {base : Heap}
def spWords (m : Nat) : Sp := fun vs H Q _ => ∃ (ra : Addr) (xs : List V) (n d : Nat), vs = [.ref ra, .int d] ∧ H ra = some (.tup xs) ∧ xs.length ≤ 10 ∧ 0 < m ∧ d + m ≤ 5 ∧ (xs = [] ∨ (n + 1 < m ∧ ∀ x ∈ xs, RuD n H x)) ∧
  ∀ p rows H', Ex H H' → H p = none → H' p = some (.lst rows) → rows.length ≤ xs.length * cnt n → (∀ v ∈ rows, RowS H H' v ∧ v ≠ .ref p) → Q (.ref p) H'
theorem cnt_le : ∀ n : Nat, n ≤ 3 → cnt n ≤ 15
  | 0, _ => by decide
  | 1, _ => by decide
  | 2, _ => by decide
  | 3, _ => by decide
  | n + 4, h => absurd h (by omega)
theorem RuD.inner {H : Hp} {n : Nat} {v : V} (h : RuD n H v) : RuB H v fun vs => vs.length ≤ 2 ∧ (vs = [] ∨ (0 < n ∧ ∀ x ∈ vs, RuD (n - 1) H x)) ∧ 1 + vs.length * cnt (n - 1) ≤ cnt n := by
  match n, h with
  | 0, h =>
    refine RuB.keep (H := H) (R := fun vs => vs = []) (fun _ _ q => q) (fun vs q => ?_) h
    subst q
    exact ⟨Nat.zero_le _, .inl rfl, by decide⟩
  | n + 1, h =>
    refine RuB.keep (H := H) (R := fun vs => vs.length ≤ 2 ∧ ∀ x ∈ vs, RuD n H x) (fun _ _ q => q) (fun vs q => ⟨q.1, .inr ⟨by omega, q.2⟩, ?_⟩) h
    show 1 + vs.length * cnt n ≤ 1 + 2 * cnt n
    have := Nat.mul_le_mul_right (cnt n) q.1
    omega
theorem sc_l_words : FnScope ["_law_rules", "_law_deep", "_law_found", "_law_name", "_law_holding", "_law_failing", "_law_ruling", "_law_inner", "_law_words_here"] ["_law_rules", "_law_deep"] (defScope sWords) := ⟨rfl, rfl, rfl, by decide +kernel, rfl, by decide +kernel, by decide +kernel⟩
theorem ok_l_words_step (T : TX P K mg) {m : Nat} (G_l_words : OkF P w K mg base CX0 (1 + m) (ga K "_law_words") ["_law_rules", "_law_deep"] (spWords m)) : OkF P w K mg base CX0 (1 + m + 1) (ga K "_law_words") ["_law_rules", "_law_deep"] (spWords (m + 1)) := by
  refine OkF.mk0 T.d_l_words sc_l_words (fun _ _ _ _ _ _ us hl => match us, hl with | [_, _], _ => rfl) (fun vs H Q E h => ?_) (fun cdv A outs s H vs Q E hr h => ?_)
  · obtain ⟨_, _, _, _, rfl, _⟩ := h; rfl
  obtain ⟨ra, xs, n, d, rfl, hX, hx10, hm0, hdm, hxs, q⟩ := h
  refine ⟨_, (pss_cons (ps_set (i := 2) sc_l_words.nd rfl (Or.inl rfl) (pe_lst pa_nil))
      (pss_cons (ps_for PassesOwn.never rfl (pi_tup (pv 0)) (pg_tup rfl (pgs_cons (pg_name (i := 3) sc_l_words.nd rfl (Or.inl rfl)) (pgs_cons (pg_name (i := 4) sc_l_words.nd rfl (Or.inl rfl)) (pgs_cons (pg_name (i := 5) sc_l_words.nd rfl (Or.inl rfl)) (pgs_cons (pg_name (i := 6) sc_l_words.nd rfl (Or.inl rfl)) (pgs_cons (pg_name (i := 7) sc_l_words.nd rfl (Or.inl rfl)) pgs_nil)))))) (pss_cons (ps_set (i := 8) sc_l_words.nd rfl (Or.inl rfl) (pe_op op_cat (pe_op op_rep (pe_lst (pa_cons pe_str pa_nil)) (pv 1)) (pe_lst (pa_cons (pv 3) (pa_cons pe_str (pa_cons (pv 6) pa_nil))))))
      (pss_cons (ps_set (i := 8) sc_l_words.nd rfl (Or.inl rfl) (pe_op op_cat (pv 8) (pe_ifExp (pt_cmpR (op_neE (hu_of hr)) (pv 4) (pe_tup pa_nil) (nomark _)) (pe_op op_cat (pe_lst (pa_cons pe_str pa_nil)) (pe_callTy call_list_of (by rfl) T.b_list (by decide +kernel) (pa_cons (pv 4) pa_nil))) (pe_lst pa_nil))))
      (pss_cons (ps_expr (pe_bm PySem.F.plainAttrs_list PySem.F.slot_list_append PySem.F.type_list_append mt_append (pv 2) (pa_cons (pe_op op_cat (pv 8) (pe_ifExp (pt_cmpR (op_neE (hu_of hr)) (pv 5) (pe_tup pa_nil) (nomark _)) (pe_op op_cat (pe_lst (pa_cons pe_str pa_nil)) (pe_callTy call_list_of (by rfl) T.b_list (by decide +kernel) (pa_cons (pv 5) pa_nil))) (pe_lst pa_nil))) pa_nil)))
      (pss_one (ps_set (i := 2) sc_l_words.nd rfl (Or.inl rfl) (pe_op op_cat (pv 2) (pe_c G_l_words hr (by omega) T.g_l_words (E := E0) passN (pa_cons (pv 7) (pa_cons (pe_op op_add (pv 1) pe_int) pa_nil))))))))))
      (pss_one (ps_ret (pv 2))))), ?_⟩
  refine q_asgL el_nil fun l0 H0 hl0 e0 hL0 => ?_
  refine q_forT (a := ra) (xs := xs) (ev_var rfl) (st_of (e0 _ _ hX)) (fun j σ' H' => ∃ l rows x3 x4 x5 x6 x7 x8, σ' = [some (.ref ra), some (.int d), some (.ref l), x3, x4, x5, x6, x7, x8] ∧ Ex H H' ∧ H l = none ∧ H' l = some (.lst rows) ∧ rows.length ≤ j * cnt n ∧ ∀ v ∈ rows, RowS H H' v ∧ v ≠ .ref l)
    (fun H1 e1 => ⟨l0, [], none, none, none, none, none, none, rfl, e0.trans e1, hl0, e1 _ _ hL0, by rw [Nat.zero_mul]; exact Nat.le_refl _, fun v hv => by cases hv⟩) (fun j σ' H' hj p => ?_) (fun j x σ' H' hx p => ?_) (fun σ' H' p => ?_)
  · obtain ⟨l, rows, x3, x4, x5, x6, x7, x8, _, a1, _⟩ := p
    exact st_of (a1 _ _ hX)
  · obtain ⟨l, rows, x3, x4, x5, x6, x7, x8, rfl, a1, a2, a3, a4, a5⟩ := p
    have hjl := (List.getElem?_eq_some_iff.mp hx).1
    have hxm := List.mem_of_getElem? hx
    obtain ⟨hnm, hru⟩ : n + 1 < m + 1 ∧ ∀ x ∈ xs, RuD n H x := by
      rcases hxs with z | z
      · rw [z] at hxm
        cases hxm
      · exact z
    obtain ⟨t, a, b, i, vs, nm, hs, ls, ru, rfl, hT, hA, hB, hI, sA, sB, lA, lB, lnm, lru, hv2, hvi, hcn⟩ := (hru x hxm).inner
    have hc15 := cnt_le n (by omega)
    have hj10 : j * cnt n ≤ 10 * 15 := Nat.mul_le_mul (by omega) hc15
    refine g_five (a1 _ _ hT) ?_
    have ld : (List.replicate d (">" : Str)).length = d := List.length_replicate
    -- the row
    refine q_asgL (xs := (List.replicate d (">" : Str) ++ [nm, "is", ru]).map V.str) ?_ fun p1 H1 hp1 e1 h1 => ?_
    · have := el_catNN (el_rep (ta := tLst (tCons (tC (.str ">")) tNil)) (tb := tVar 1) (σ := [some (.ref ra), some (.int d), some (.ref l), some (.str nm), some (.ref a), some (.ref b), some (.str ru), some (.ref i), x8]) (H := H') (k := d) (el_lst (ea_cons ev_c ea_nil) (by show 1 ≤ 100000; decide)) (ev_var rfl) (by omega) (by show 1 ≤ 10; decide)) (el_lst (ta := tCons (tVar 3) (tCons (tC (.str "is")) (tCons (tVar 6) tNil))) (ea_cons (ev_var rfl) (ea_cons ev_c (ea_cons (ev_var rfl) ea_nil))) (by show 3 ≤ 100000; decide)) (by rw [rep_str, List.length_map, ld]; show d + 3 ≤ 100000; omega)
      rw [rep_str] at this
      rw [List.map_append]
      exact this
    refine q_asgL (xs := ((List.replicate d (">" : Str) ++ [nm, "is", ru]) ++ opt "if" hs).map V.str) ?_ fun p2 H2 hp2 e2 h2 => ?_
    · rw [List.map_append (l₂ := opt "if" hs)]
      refine el_catVN (ev_var rfl) h1 (el_opt (ev_var rfl) ((a1.trans e1) _ _ hA) (by omega)) ?_
      have := opt_len "if" hs
      rw [List.length_map, List.length_map, List.length_append, ld]
      show d + 3 + (opt "if" hs).length ≤ 100000
      omega
    have e12 := e1.trans e2
    have a12 := a1.trans e12
    have hl2 := e12 _ _ a3
    refine q_appL (ys := (((List.replicate d (">" : Str) ++ [nm, "is", ru]) ++ opt "if" hs) ++ opt "not" ls).map V.str) hl2 (ev_var rfl) ?_ (by omega) fun p3 H3 hp3 e3 h3 => ?_
    · rw [List.map_append (l₂ := opt "not" ls)]
      refine el_catVN (ev_var rfl) h2 (el_opt (ev_var rfl) (a12 _ _ hB) (by omega)) ?_
      have := opt_len "if" hs
      have := opt_len "not" ls
      rw [List.length_map, List.length_map, List.length_append, List.length_append, ld]
      show d + 3 + (opt "if" hs).length + (opt "not" ls).length ≤ 100000
      omega
    have e13 := e12.trans e3
    have a13 := a1.trans e13
    have hl3 : H3 l = some (.lst rows) := e13 _ _ a3
    have n3l : p3 ≠ l := fun e => by
      rw [e, hl2] at hp3
      cases hp3
    have eH4 : Ex H (upd H3 l (.lst (rows ++ [.ref p3]))) := a13.mut a2
    have hl4 : upd H3 l (.lst (rows ++ [.ref p3])) l = some (.lst (rows ++ [.ref p3])) := upd_same
    have hr4 : ∀ v ∈ rows ++ [.ref p3], RowS H (upd H3 l (.lst (rows ++ [.ref p3]))) v ∧ v ≠ .ref l := fun v hv => by
      rcases List.mem_append.mp hv with z | z
      · exact ⟨((a5 v z).1.mono e13).updL (a5 v z).2, (a5 v z).2⟩
      · rw [List.mem_singleton.mp z]
        refine ⟨RowS.updL ⟨p3, _, rfl, h3, ?_, ?_, fresh_back a12 hp3⟩ (fun e => n3l (V.ref.inj e)), fun e => n3l (V.ref.inj e)⟩
        · have := opt_len "if" hs
          have := opt_len "not" ls
          rw [List.length_append, List.length_append, List.length_append, ld]
          show d + 3 + (opt "if" hs).length + (opt "not" ls).length ≤ 30
          omega
        · exact (((Sh.rep (by decide)).app ((Sh.one lnm).app ((Sh.one (by decide)).app (Sh.one lru)))).app (opt_sh (by decide) sA)).app (opt_sh (by decide) sB)
    revert eH4 hl4 hr4
    generalize upd H3 l (.lst (rows ++ [.ref p3])) = H4
    intro eH4 hl4 hr4
    -- what is within
    refine ⟨_, rfl, ?_⟩
    refine go_k (ea_cons (ev_var rfl) (ea_cons (ev_is (ev_op (ev_var rfl) ev_c rv_I0) (show V.int ((d : Int) + 1) = .int ((d + 1 : Nat) : Int) from rfl)) ea_nil)) fun H5 e5 => ?_
    refine ⟨i, vs, n - 1, d + 1, rfl, (eH4.trans e5) _ _ hI, by omega, by omega, by omega, ?_, fun p6 rows6 H6 e6 hp6 h6 hz6 hr6 => ?_⟩
    · rcases hvi with z | z
      · exact .inl z
      · exact .inr ⟨by omega, fun x hx => (z.2 x hx).keep (KeepT.of (eH4.trans e5))⟩
    have e46 := e5.trans e6
    have hz7 : rows6.length ≤ vs.length * cnt (n - 1) := hz6
    refine ⟨l, p6, _, _, rfl, rfl, e46 _ _ hl4, h6, sz_of (by rw [List.length_append, List.length_singleton]; omega), fun p7 hp7 => ?_⟩
    refine ⟨p7, _, _, _, _, _, _, _, rfl, (eH4.trans e46).trans (Ex.new hp7), fresh_back (eH4.trans e46) hp7, upd_same, ?_, fun v hv => ?_⟩
    · rw [List.length_append, List.length_append, List.length_singleton]
      have : (j + 1) * cnt n = j * cnt n + cnt n := Nat.succ_mul j (cnt n)
      omega
    · have key : RowS H H6 v := by
        rcases List.mem_append.mp hv with z | z
        · exact (hr4 v z).1.mono e46
        · exact (hr6 v z).1.back (eH4.trans e5)
      refine ⟨key.mono (Ex.new hp7), fun e => ?_⟩
      obtain ⟨a9, ws9, h91, h92, _⟩ := key
      rw [h91] at e
      rw [V.ref.inj e] at h92
      rw [show H6 p7 = some _ from h92] at hp7
      cases hp7
  · obtain ⟨l, rows, x3, x4, x5, x6, x7, x8, rfl, a1, a2, a3, a4, a5⟩ := p
    exact ⟨_, rfl, q l rows H' a1 a2 a3 a4 a5⟩
theorem ok_l_words (T : TX P K mg) : ∀ m : Nat, OkF P w K mg base CX0 (1 + m) (ga K "_law_words") ["_law_rules", "_law_deep"] (spWords m)
  | 0 => OkF.vac T.d_l_words (fun _ _ _ _ _ _ us hl => match us, hl with | [_, _], _ => rfl) fun vs H Q E h => by
    obtain ⟨ra, xs, n, d, _, _, _, h1, _⟩ := h
    omega
  | m + 1 => ok_l_words_step T (ok_l_words T m)
end
end K56
set_option Elab.async false
set_option linter.all false
set_option maxRecDepth 100000
set_option maxHeartbeats 4000000
/-! K56, part D21: rows drawn, a text made of them. -/
namespace K56
open PySem PySem.W PyProof.Rows L2 Evl He
section
variable {σ : L2.St} {H : Hp} {ta : TA} {te : TE}
theorem op_lst {Q : VK} (h : ta σ H fun xs H1 => xs.length ≤ sizeLine ∧ ∀ p, H1 p = none → Q (.ref p) (upd H1 p (.lst xs))) : tLst ta σ H Q := h
end
def rJn (K : Frag) : V → List V → Hp → VK → Prop := fun x xs H Q => ∃ a p, ∃ ys : List Str, x = .str a ∧ xs = [.ref p] ∧ (SqL K H p (ys.map V.str) ∨ SqT K H p (ys.map V.str)) ∧ (ys.map (·.length)).sum + ys.length * a.length ≤ 16777216 ∧ Q (.str (Txt.join a ys)) H
theorem pe_jn {X : Cx} {o e : Expr} {to te : TE} {apos pos : Pos} (ho : PE X o to) (he : PE X e te) (hs : starEach [e] X.env = [(false, eval e X.env)] := by rfl) (hbase : attributeBase o "join" X.env (eval o X.env) = eval o X.env := by rfl) (hline : (apos.endLine == pos.line) = true := by rfl) :
    PE X (.Call (.Attribute o "join" apos) [e] [] pos) (tM1 (rJn X.K) to te) := pe_join ho he hs hbase hline
theorem joinL_len (S : List Nat) : ∀ parts : List (List Nat), (TL.joinL S parts).length ≤ (parts.map (·.length)).sum + parts.length * S.length
  | [] => Nat.zero_le _
  | [p] => by
    show p.length ≤ (p.length + 0) + 1 * S.length
    omega
  | p :: q :: r => by
    have ih := joinL_len S (q :: r)
    show (p ++ (S ++ TL.joinL S (q :: r))).length ≤ _
    rw [List.length_append, List.length_append, List.map_cons, List.sum_cons, List.length_cons, Nat.succ_mul]
    omega
theorem join_len (a : Str) (ys : List Str) : (Txt.join a ys).length ≤ (ys.map (·.length)).sum + ys.length * a.length := by
  rw [TL.join_eq]
  have h := joinL_len (TL.tl a) (ys.map TL.tl)
  rw [← TL.tl_join, List.map_map, List.length_map] at h
  exact h
theorem sum_le {B : Nat} : ∀ {ys : List Str}, (∀ z ∈ ys, z.length ≤ B) → (ys.map (·.length)).sum ≤ ys.length * B
  | [], _ => Nat.zero_le _
  | z :: r, h => by
    rw [List.map_cons, List.sum_cons, List.length_cons, Nat.succ_mul]
    have := h z List.mem_cons_self
    have := sum_le fun y hy => h y (List.mem_cons_of_mem _ hy)
    omega
theorem join_le {a : Str} {ys : List Str} {B : Nat} (h : ∀ z ∈ ys, z.length ≤ B) (ha : a.length = 1) : (ys.map (·.length)).sum + ys.length * a.length ≤ ys.length * (B + 1) ∧ (Txt.join a ys).length ≤ ys.length * (B + 1) := by
  have h1 := sum_le h
  have h2 := join_len a ys
  have h3 : ys.length * (B + 1) = ys.length * B + ys.length := Nat.mul_succ _ _
  rw [ha, Nat.mul_one] at h2 ⊢
  omega
section
variable {P : Program} {w : World} {K : Frag} {mg : Str → Option Value} {base : Heap}
def spRowsOf : Sp := fun vs H Q _ => ∃ (t fa ra : Addr) (fs : List Str) (xs : List V) (ru : Str), vs = [.ref t] ∧ H t = some (.tup [.ref fa, .ref ra, .str ru]) ∧ ST H fa fs ∧ Sh fs ∧ fs.length ≤ 10 ∧ H ra = some (.tup xs) ∧ xs.length ≤ 4 ∧ (∀ x ∈ xs, RuD 2 H x) ∧ ru.length ≤ 10 ∧
  ∀ p rows H', Ex H H' → H p = none → H' p = some (.lst rows) → rows ≠ [] → rows.length ≤ 30 → (∀ v ∈ rows, RowS H H' v ∧ v ≠ .ref p) → Q (.ref p) H'
theorem sc_l_rows_of : FnScope ["_law_drawn_here"] ["_law_drawn_here"] (defScope sRowsOf) := ⟨rfl, rfl, rfl, by decide +kernel, rfl, by decide +kernel, by decide +kernel⟩
theorem ok_l_rows_of (T : TX P K mg) : OkF P w K mg base CX0 (5 + 1) (ga K "_law_rows_of") ["_law_drawn_here"] spRowsOf := by
  refine OkF.mk0 T.d_l_rows_of sc_l_rows_of (fun _ _ _ _ _ _ us hl => match us, hl with | [_], _ => rfl) (fun vs H Q E h => ?_) (fun cdv A outs s H vs Q E hr h => ?_)
  · obtain ⟨_, _, _, _, _, _, rfl, _⟩ := h; rfl
  obtain ⟨t, fa, ra, fs, xs, ru, rfl, hT, hF, hFs, hf10, hX, hx4, hR, hru, q⟩ := h
  refine ⟨_, (pss_one (ps_ret (pe_op op_cat (pe_op op_cat (pe_lst (pa_cons (pe_op op_cat (pe_lst (pa_cons pe_str pa_nil)) (pe_callTy call_list_of (by rfl) T.b_list (by decide +kernel) (pa_cons (pe_ix ix_tup (pv 0) pe_int (fun _ _ => rfl)) pa_nil))) pa_nil)) (pe_c (ok_l_words T 4) hr (by omega) T.g_l_words (E := E0) passN (pa_cons (pe_ix ix_tup (pv 0) pe_int (fun _ _ => rfl)) (pa_cons pe_int pa_nil)))) (pe_lst (pa_cons (pe_lst (pa_cons pe_str (pa_cons (pe_ix ix_tup (pv 0) pe_int (fun _ _ => rfl)) pa_nil))) pa_nil))))), ?_⟩
  have ixt : ∀ {H2 : Hp} {i : Nat} {v : V}, Ex H H2 → [V.ref fa, .ref ra, .str ru][i]? = some v → RV (rIxT K) (.ref t) (.int (i : Nat)) H2 v := fun e h => rv_ixT (st_of (e _ _ hT)) (atI_nat h)
  have ixt0 : ∀ {H2 : Hp}, Ex H H2 → RV (rIxT K) (.ref t) (.int 0) H2 (.ref fa) := fun e => ixt (i := 0) e rfl
  have ixt1 : ∀ {H2 : Hp}, Ex H H2 → RV (rIxT K) (.ref t) (.int 1) H2 (.ref ra) := fun e => ixt (i := 1) e rfl
  have ixt2 : ∀ {H2 : Hp}, Ex H H2 → RV (rIxT K) (.ref t) (.int 2) H2 (.str ru) := fun e => ixt (i := 2) e rfl
  refine op_ret (op_op (op_op (op_lst (op_cons ?_))))
  refine el_catNN (xs := [V.str "facts"]) (ys := fs.map V.str) (el_lst (ea_cons ev_c ea_nil) (by show 1 ≤ 100000; decide)) (el_listT (ev_op (ev_var rfl) ev_c (ixt0 (Ex.refl H))) (st_of hF)) (by rw [List.length_map]; show 1 + fs.length ≤ 100000; omega) H (Ex.refl H) _ fun p1 H1 hp1 e1 h1 => ⟨by show 1 ≤ sizeLine; decide, fun q1 hq1 => ?_⟩
  have e2 : Ex H1 (upd H1 q1 (.lst [.ref p1])) := Ex.new hq1
  have h2 : upd H1 q1 (.lst [.ref p1]) q1 = some (.lst [.ref p1]) := upd_same
  have r1 : RowS H (upd H1 q1 (.lst [.ref p1])) (.ref p1) := ⟨p1, "facts" :: fs, rfl, e2 _ _ h1, by rw [List.length_cons]; omega, (Sh.one (by decide)).app hFs, hp1⟩
  revert e2 h2 r1
  generalize upd H1 q1 (.lst [.ref p1]) = H2
  intro e2 h2 r1
  have e02 := e1.trans e2
  refine go_k (ea_cons (ev_op (ev_var rfl) ev_c (ixt1 e02)) (ea_cons ev_c ea_nil)) fun H3 e3 => ?_
  have e03 := e02.trans e3
  refine ⟨ra, xs, 2, 0, rfl, e03 _ _ hX, by omega, by omega, by omega, .inr ⟨by omega, fun x hx => (hR x hx).keep (KeepT.of e03)⟩, fun p4 rows4 H4 e4 hp4 h4 hz4 hr4 => ?_⟩
  have hz : rows4.length ≤ 4 * 7 := Nat.le_trans hz4 (Nat.mul_le_mul hx4 (by decide))
  have e34 := e3.trans e4
  refine ⟨q1, p4, _, _, rfl, rfl, e34 _ _ h2, h4, sz_of (by show 1 + rows4.length ≤ 100000; omega), fun p5 hp5 => ?_⟩
  have e5 : Ex H4 (upd H4 p5 (.lst ([.ref p1] ++ rows4))) := Ex.new hp5
  have h5 : upd H4 p5 (.lst ([.ref p1] ++ rows4)) p5 = some (.lst ([.ref p1] ++ rows4)) := upd_same
  revert e5 h5
  generalize upd H4 p5 (.lst ([.ref p1] ++ rows4)) = H5
  intro e5 h5
  have e05 := (e03.trans e4).trans e5
  refine op_lst (op_cons ?_)
  refine el_lst (vs := [V.str "else", .str ru]) (ea_cons ev_c (ea_cons (ev_op (ev_var rfl) ev_c (ixt2 e05)) ea_nil)) (by show 2 ≤ 100000; decide) H5 (Ex.refl H5) _ fun p6 H6 hp6 e6 h6 => ⟨by show 1 ≤ sizeLine; decide, fun p7 hp7 => ?_⟩
  have e7 : Ex H6 (upd H6 p7 (.lst [.ref p6])) := Ex.new hp7
  have h7 : upd H6 p7 (.lst [.ref p6]) p7 = some (.lst [.ref p6]) := upd_same
  revert e7 h7
  generalize upd H6 p7 (.lst [.ref p6]) = H7
  intro e7 h7
  have e57 := e6.trans e7
  refine ⟨p5, p7, _, _, rfl, rfl, e57 _ _ h5, h7, sz_of (by show rows4.length + 1 + 1 ≤ 100000; omega), fun p8 hp8 => ?_⟩
  have e07 := e05.trans e57
  refine q p8 _ _ (e07.trans (Ex.new hp8)) (fresh_back e07 hp8) upd_same (fun z => (by simp at z)) (by rw [List.length_append, List.length_append]; show 1 + rows4.length + 1 ≤ 30; omega) fun v hv => ?_
  have key : RowS H H7 v := by
    rcases List.mem_append.mp hv with z | z
    · rcases List.mem_append.mp z with z | z
      · rw [List.mem_singleton.mp z]
        exact r1.mono ((e34.trans e5).trans e57)
      · exact ((hr4 v z).1.back e03).mono (e5.trans e57)
    · rw [List.mem_singleton.mp z]
      exact ⟨p6, ["else", ru], rfl, e7 _ _ h6, by show 2 ≤ 30; decide, (Sh.one (by decide)).app (Sh.one hru), fresh_back e05 hp6⟩
  refine ⟨key.mono (Ex.new hp8), fun e => ?_⟩
  obtain ⟨a9, ws9, h91, h92, _⟩ := key
  rw [h91] at e
  rw [V.ref.inj e] at h92
  rw [show H7 p8 = some _ from h92] at hp8
  cases hp8
def spText : Sp := fun vs H Q _ => ∃ (ra : Addr) (rows : List V) (R W : Nat), vs = [.ref ra] ∧ H ra = some (.lst rows) ∧ rows.length ≤ R ∧ (∀ v ∈ rows, ∃ a ws, v = .ref a ∧ SL H a ws ∧ ws.length ≤ W ∧ Sh ws) ∧ R * (W * 11 + 1) ≤ 20000 ∧
  ∀ t H', Ex H H' → t.length ≤ 20000 → Q (.str t) H'
theorem sc_l_text : FnScope ["_law_rows", "_law_words_here"] ["_law_rows"] (defScope sText) := ⟨rfl, rfl, rfl, by decide +kernel, rfl, by decide +kernel, by decide +kernel⟩
theorem ok_l_text (T : TX P K mg) : OkF P w K mg base CX0 (0 + 1) (ga K "_law_text") ["_law_rows"] spText := by
  refine OkF.mk0 T.d_l_text sc_l_text (fun _ _ _ _ _ _ us hl => match us, hl with | [_], _ => rfl) (fun vs H Q E h => ?_) (fun cdv A outs s H vs Q E hr h => ?_)
  · obtain ⟨_, _, _, _, rfl, _⟩ := h; rfl
  obtain ⟨ra, rows, R, W, rfl, hX, hR, hr, hsz, q⟩ := h
  refine ⟨_, (pss_one (ps_ret (pe_jn pe_str (pe_lc (own := [("_law_words_here", 1)]) (g := (gName 1)) (tt := tYes) (te := tM1 (rJn K) (tC (.str " ")) (tVar 1))  rfl sc_l_text.nd (pi_list (pv 0)) (blkOk_by (own := [("_law_words_here", 1)]) (N := ["_law_rows", "_law_words_here"]) (sc := defScope sText) (by decide +kernel)) (fun _ _ _ _ _ => (pg_name (i := 1) sc_l_text.nd rfl (Or.inl rfl) (.inr (by rfl)))) (fun _ _ _ _ _ => pts_nil) (fun _ _ _ _ _ => (pe_jn pe_str (pv 1))))))), ?_⟩
  have hB : rows.length * (W * 11 + 1) ≤ 20000 := Nat.le_trans (Nat.mul_le_mul_right _ hR) hsz
  have hrows : rows.length ≤ 20000 := by
    have : rows.length * 1 ≤ rows.length * (W * 11 + 1) := Nat.mul_le_mul_left _ (by omega)
    omega
  refine op_ret ⟨⟨_, rfl⟩, ?_⟩
  refine ⟨_, rfl, ra, rfl, ⟨rows, sq_of hX⟩, fun D hD => ?_⟩
  refine lc_list (K := K) (a := ra) (xs := rows) (fun i H' => ∃ zs : List Str, Ex H H' ∧ SL H' D zs ∧ zs.length = i ∧ ∀ z ∈ zs, z.length ≤ W * 11) ⟨[], Ex.new hD, upd_same, rfl, fun z hz => by cases hz⟩ (fun i H' _ p => ?_) (fun i x H' hx p => ?_) (fun H' p => ?_)
  · obtain ⟨zs, a1, _⟩ := p
    exact sq_of (a1 _ _ hX)
  · obtain ⟨zs, a1, a2, a3, a4⟩ := p
    have hil := (List.getElem?_eq_some_iff.mp hx).1
    obtain ⟨a, ws, rfl, hA, hW, hS⟩ := hr x (List.mem_of_getElem? hx)
    have hj := join_le (a := " ") (ys := ws) hS (by decide)
    have hw11 : ws.length * (10 + 1) ≤ W * 11 := Nat.mul_le_mul_right 11 hW
    have hwB : W * 11 ≤ 20000 := by
      have : 1 * (W * 11 + 1) ≤ rows.length * (W * 11 + 1) := Nat.mul_le_mul_right _ (by omega)
      omega
    refine ⟨rfl, ?_⟩
    show tM1 (rJn K) (tC (.str " ")) (tVar 1) _ _ _
    refine ⟨⟨_, rfl⟩, _, rfl, " ", a, ws, rfl, rfl, .inl (sq_of (a1 _ _ hA)), by omega, zs.map V.str, a2, sz_lt (by rw [List.length_map]; omega), zs ++ [Txt.join " " ws], a1.mut hD, ?_, by rw [List.length_append, a3]; rfl, fun z hz => ?_⟩
    · show upd H' D _ D = _
      rw [upd_same, List.map_append]
      rfl
    · rcases List.mem_append.mp hz with y | y
      · exact a4 z y
      · rw [List.mem_singleton.mp y]
        omega
  · obtain ⟨zs, a1, a2, a3, a4⟩ := p
    have hj := join_le (a := "\n") (ys := zs) a4 (by decide)
    rw [a3] at hj
    exact ⟨"\n", D, zs, rfl, rfl, .inl (sq_of a2), by rw [a3]; omega, q _ H' a1 (by omega)⟩
end
end K56
set_option Elab.async false
set_option linter.all false
set_option maxRecDepth 100000
set_option maxHeartbeats 4000000
/-! K56, part D22: rows changed. -/
namespace K56
open PySem PySem.W PyProof.Rows L2 Evl He
def SOM : List Str := ["", ">", "is", "if", "not", "else", "facts", "late", "ab", "Fog", "ninelette", "z"]
theorem som_sh : Sh SOM := by unfold Sh; decide +kernel
def RowM (H : Hp) (h c p sl : Addr) (W : Nat) (v : V) : Prop := ∃ a ws, v = .ref a ∧ SL H a ws ∧ ws.length ≤ W ∧ Sh ws ∧ a ≠ h ∧ a ≠ c ∧ a ≠ sl ∧ a ≠ p
structure Bn (H : Hp) (h c p sl : Addr) (R W : Nat) (Pr : Nat → Prop) : Prop where
  dw : Dw H h c
  so : SL H sl SOM
  ro : ∃ vs, H p = some (.lst vs) ∧ vs ≠ [] ∧ vs.length ≤ R ∧ Pr vs.length ∧ ∀ v ∈ vs, RowM H h c p sl W v
theorem RowM.mono {H H' : Hp} {h c p sl : Addr} {W : Nat} {v : V} (r : RowM H h c p sl W v) (e : Ex H H') : RowM H' h c p sl W v := by
  obtain ⟨a, ws, h1, h2, h3⟩ := r
  exact ⟨a, ws, h1, e _ _ h2, h3⟩
theorem Bn.mono {H H' : Hp} {h c p sl : Addr} {R W : Nat} {Pr : Nat → Prop} (B : Bn H h c p sl R W Pr) (e : Ex H H') : Bn H' h c p sl R W Pr := by
  obtain ⟨vs, h1, h2, h3, h4, h5⟩ := B.ro
  exact ⟨B.dw.mono e, e _ _ B.so, vs, e _ _ h1, h2, h3, h4, fun v hv => (h5 v hv).mono e⟩
theorem Bn.next {H H' : Hp} {h c p sl : Addr} {R W : Nat} {Pr : Nat → Prop} (B : Bn H h c p sl R W Pr) (x : Xc [h, c] H H') (d : Dw H' h c) (p1 : p ≠ h) (p2 : p ≠ c) (s1 : sl ≠ h) (s2 : sl ≠ c) : Bn H' h c p sl R W Pr := by
  obtain ⟨vs, h1, h2, h3, h4, h5⟩ := B.ro
  refine ⟨d, x _ _ (by simp [s1, s2]) B.so, vs, x _ _ (by simp [p1, p2]) h1, h2, h3, h4, fun v hv => ?_⟩
  obtain ⟨a, ws, g1, g2, g3, g4, g5, g6, g7⟩ := h5 v hv
  exact ⟨a, ws, g1, x _ _ (by simp [g5, g6]) g2, g3, g4, g5, g6, g7⟩
theorem Bn.up {H : Hp} {h c p sl : Addr} {R W R' W' : Nat} {Pr Pr' : Nat → Prop} (B : Bn H h c p sl R W Pr) (hR : R ≤ R') (hW : W ≤ W') (hP : ∀ n, Pr n → Pr' n) : Bn H h c p sl R' W' Pr' := by
  obtain ⟨vs, h1, h2, h3, h4, h5⟩ := B.ro
  refine ⟨B.dw, B.so, vs, h1, h2, by omega, hP _ h4, fun v hv => ?_⟩
  obtain ⟨a, ws, g1, g2, g3, g4⟩ := h5 v hv
  exact ⟨a, ws, g1, g2, by omega, g4⟩
/-- one row has other words -/
theorem Bn.set {H : Hp} {h c p sl a : Addr} {R W W' : Nat} {Pr : Nat → Prop} {ws : List Str} (B : Bn H h c p sl R W Pr) (a1 : a ≠ h) (a2 : a ≠ c) (a3 : a ≠ sl) (a4 : a ≠ p) (hW : W ≤ W') (hl : ws.length ≤ W') (hs : Sh ws) (o : HO) (ho : o = .lst (ws.map V.str)) : Bn (upd H a o) h c p sl R W' Pr := by
  subst ho
  obtain ⟨vs, h1, h2, h3, h4, h5⟩ := B.ro
  refine ⟨B.dw.upd a1 a2, ?_, vs, by rw [upd_ne a4.symm]; exact h1, h2, h3, h4, fun v hv => ?_⟩
  · show upd H a _ sl = _
    rw [upd_ne a3.symm]
    exact B.so
  · obtain ⟨b, ws', g1, g2, g3, g4, g5⟩ := h5 v hv
    by_cases e : b = a
    · subst e
      exact ⟨b, ws, g1, upd_same, hl, hs, g5⟩
    · refine ⟨b, ws', g1, ?_, by omega, g4, g5⟩
      show upd H a _ b = _
      rw [upd_ne e]
      exact g2
theorem pick12 {r : Int} (h0 : 0 ≤ r) (h1 : r < 12) : ∃ z : Str, atI (SOM.map V.str) r = some (.str z) ∧ z.length ≤ 10 := by
  obtain ⟨k, rfl⟩ : ∃ k : Nat, r = (k : Int) := ⟨r.toNat, by omega⟩
  have hk : k < SOM.length := by show k < 12; omega
  exact ⟨wd SOM k, at_str hk, som_sh.wd hk⟩
theorem ins_str {ws : List Str} {z : Str} {k : Nat} : (ws.map V.str).take k ++ [V.str z] ++ (ws.map V.str).drop k = (ws.take k ++ [z] ++ ws.drop k).map V.str := by
  rw [List.map_append, List.map_append, List.map_take, List.map_drop]
  rfl
theorem insL {ws : List Str} {z : Str} {k : Nat} : (ws.take k ++ [z] ++ ws.drop k).length = ws.length + 1 := by
  rw [List.length_append, List.length_append, List.length_singleton, List.length_take, List.length_drop]
  omega
theorem Sh.ins {ws : List Str} {z : Str} {k : Nat} (h : Sh ws) (hz : z.length ≤ 10) : Sh (ws.take k ++ [z] ++ ws.drop k) :=
  (Sh.app (fun y hy => h y (List.mem_of_mem_take hy)) (Sh.one hz)).app fun y hy => h y (List.mem_of_mem_drop hy)
section
variable {P : Program} {w : World} {K : Frag} {mg : Str → Option Value} {base : Heap}
def spBent : Sp := fun vs H Q _ => ∃ (h c p : Addr) (rows : List V), vs = [.ref h, .ref p] ∧ Dw H h c ∧ p ≠ h ∧ p ≠ c ∧ H p = some (.lst rows) ∧ rows ≠ [] ∧ rows.length ≤ 30 ∧ (∀ v ∈ rows, ∃ a ws, v = .ref a ∧ SL H a ws ∧ ws.length ≤ 30 ∧ Sh ws ∧ a ≠ h ∧ a ≠ c ∧ a ≠ p) ∧
  ∀ H' rows', Dw H' h c → H' p = some (.lst rows') → rows'.length ≤ 32 → (∀ v ∈ rows', ∃ a ws, v = .ref a ∧ SL H' a ws ∧ ws.length ≤ 34 ∧ Sh ws) → Q (.ref p) H'
theorem sc_l_bent : FnScope ["_law_h", "_law_rows", "_law_some", "_law_lap", "_law_r", "_law_path", "_law_k"] ["_law_h", "_law_rows"] (defScope sBent) := ⟨rfl, rfl, rfl, by decide +kernel, rfl, by decide +kernel, by decide +kernel⟩
theorem ok_l_bent (T : TX P K mg) : OkF P w K mg base CX0 (1 + 1) (ga K "_law_bent") ["_law_h", "_law_rows"] spBent := by
  refine OkF.mk0 T.d_l_bent sc_l_bent (fun _ _ _ _ _ _ us hl => match us, hl with | [_, _], _ => rfl) (fun vs H Q E h => ?_) (fun cdv A outs s H vs Q E hr h => ?_)
  · obtain ⟨_, _, _, _, rfl, _⟩ := h; rfl
  obtain ⟨h, c, p, rows, rfl, D, p1, p2, hP, hne, hR, hrw, q⟩ := h
  refine ⟨_, (pss_cons (ps_set (i := 2) sc_l_bent.nd rfl (Or.inl rfl) (pe_lst (pa_cons pe_str (pa_cons pe_str (pa_cons pe_str (pa_cons pe_str (pa_cons pe_str (pa_cons pe_str (pa_cons pe_str (pa_cons pe_str (pa_cons pe_str (pa_cons pe_str (pa_cons pe_str (pa_cons pe_str pa_nil))))))))))))))
      (pss_cons (ps_for PassesOwn.never rfl (pi_range1 rfl T.b_range (pa_cons (pe_c (ok_l_next T) hr (by omega) T.g_l_next (E := E0) passN (pa_cons (pv 0) (pa_cons pe_int pa_nil))) pa_nil)) (pg_name (i := 3) sc_l_bent.nd rfl (Or.inl rfl)) (pss_cons (ps_par (i := 4) (j := 5) rfl sc_l_bent.nd rfl rfl (by decide) rfl rfl (pa_cons (pe_c (ok_l_next T) hr (by omega) T.g_l_next (E := E0) passN (pa_cons (pv 0) (pa_cons (pe_callB call_len_seq (by rfl) T.b_len PySem.boot_len (pa_cons (pv 1) pa_nil)) pa_nil))) (pa_cons (pe_c (ok_l_next T) hr (by omega) T.g_l_next (E := E0) passN (pa_cons (pv 0) (pa_cons pe_int pa_nil))) pa_nil)) rfl)
      (pss_cons (ps_set (i := 6) sc_l_bent.nd rfl (Or.inl rfl) (pe_c (ok_l_next T) hr (by omega) T.g_l_next (E := E0) passN (pa_cons (pv 0) (pa_cons (pe_op op_add (pe_callB call_len_seq (by rfl) T.b_len PySem.boot_len (pa_cons (pe_ix ix_list (pv 1) (pv 4) (fun _ _ => rfl)) pa_nil)) pe_int) pa_nil))))
      (pss_cut (ps_if (pw_and (pt_cmpR op_eq (pv 5) pe_int (nomark _)) (pw_and1 (pt_cmpR op_lt (pv 6) (pe_callB call_len_seq (by rfl) T.b_len PySem.boot_len (pa_cons (pe_ix ix_list (pv 1) (pv 4) (fun _ _ => rfl)) pa_nil)) (nomark _)))).pt (pss_one (ps_expr (pe_bm PySem.F.plainAttrs_list PySem.F.slot_list_pop PySem.F.type_list_pop mt_popAt (pe_ix ix_list (pv 1) (pv 4) (fun _ _ => rfl)) (pa_cons (pv 6) pa_nil)))) pss_nil)
      (pss_cut (ps_if (pw_and (pt_cmpR op_lt (pv 5) pe_int (nomark _)) (pw_and1 (pt_cmpR op_gt (pv 5) pe_int (nomark _)))).pt (pss_one (ps_expr (pe_bm PySem.F.plainAttrs_list PySem.F.slot_list_insert PySem.F.type_list_insert mt_insert (pe_ix ix_list (pv 1) (pv 4) (fun _ _ => rfl)) (pa_cons (pv 6) (pa_cons (pe_ix ix_list (pv 2) (pe_c (ok_l_next T) hr (by omega) T.g_l_next (E := E0) passN (pa_cons (pv 0) (pa_cons pe_int pa_nil))) (fun _ _ => rfl)) pa_nil))))) pss_nil)
      (pss_cut (ps_if (pw_and (pt_cmpR op_eq (pv 5) pe_int (nomark _)) (pw_and1 (pt_cmpR op_lt (pv 6) (pe_callB call_len_seq (by rfl) T.b_len PySem.boot_len (pa_cons (pe_ix ix_list (pv 1) (pv 4) (fun _ _ => rfl)) pa_nil)) (nomark _)))).pt (pss_one (ps_asg (pe_ix ix_list (pv 2) (pe_c (ok_l_next T) hr (by omega) T.g_l_next (E := E0) passN (pa_cons (pv 0) (pa_cons pe_int pa_nil))) (fun _ _ => rfl)) (pg_sub (pe_ix ix_list (pv 1) (pv 4) (fun _ _ => rfl)) (pv 6) set_list))) pss_nil)
      (pss_cut (ps_if (pt_cmpR op_eq (pv 5) pe_int (nomark _)) (pss_one (ps_expr (pe_bm PySem.F.plainAttrs_list PySem.F.slot_list_insert PySem.F.type_list_insert mt_insert (pv 1) (pa_cons (pv 4) (pa_cons (pe_callTy call_list_of (by rfl) T.b_list (by decide +kernel) (pa_cons (pe_ix ix_list (pv 1) (pe_c (ok_l_next T) hr (by omega) T.g_l_next (E := E0) passN (pa_cons (pv 0) (pa_cons (pe_callB call_len_seq (by rfl) T.b_len PySem.boot_len (pa_cons (pv 1) pa_nil)) pa_nil))) (fun _ _ => rfl)) pa_nil)) pa_nil))))) pss_nil)
      (pss_cut (ps_if (pw_and (pt_cmpR op_eq (pv 5) pe_int (nomark _)) (pw_and1 (pt_cmpR op_gt (pe_callB call_len_seq (by rfl) T.b_len PySem.boot_len (pa_cons (pv 1) pa_nil)) pe_int (nomark _)))).pt (pss_one (ps_expr (pe_bm PySem.F.plainAttrs_list PySem.F.slot_list_pop PySem.F.type_list_pop mt_popAt (pv 1) (pa_cons (pv 4) pa_nil)))) pss_nil)
      (pss_one (ps_if (pt_cmpR op_eq (pv 5) pe_int (nomark _)) (pss_one (ps_expr (pe_bm PySem.F.plainAttrs_list PySem.F.slot_list_insert PySem.F.type_list_insert mt_insert (pe_ix ix_list (pv 1) (pv 4) (fun _ _ => rfl)) (pa_cons pe_int (pa_cons pe_str pa_nil))))) pss_nil))))))))))
      (pss_one (ps_ret (pv 1))))), ?_⟩
  refine q_asgL (xs := SOM.map V.str) (el_lst (ea_cons ev_c (ea_cons ev_c (ea_cons ev_c (ea_cons ev_c (ea_cons ev_c (ea_cons ev_c (ea_cons ev_c (ea_cons ev_c (ea_cons ev_c (ea_cons ev_c (ea_cons ev_c (ea_cons ev_c ea_nil)))))))))))) (by show 12 ≤ 100000; decide)) fun sl H0 hsl e0 hS0 => ?_
  obtain ⟨s1, s2⟩ := new_ne D hsl
  have sp : p ≠ sl := ne_of_none hP hsl
  have B0 : Bn H0 h c p sl 30 30 (fun _ => True) := ⟨D.mono e0, hS0, rows, e0 _ _ hP, hne, hR, trivial, fun v hv => by
    obtain ⟨a, ws, g1, g2, g3, g4, g5, g6, g7⟩ := hrw v hv
    exact ⟨a, ws, g1, e0 _ _ g2, g3, g4, g5, g6, ne_of_none g2 hsl, g7⟩⟩
  refine q_forRN (j := 3) (fun m H4 => 0 ≤ m ∧ m ≤ 2 ∧ Bn H4 h c p sl 30 30 (fun _ => True)) (fun R k => ?_)
    (fun m i σ' H' => m ≤ 2 ∧ (i : Int) ≤ m ∧ ∃ x3 x4 x5 x6, σ' = [some (.ref h), some (.ref p), some (.ref sl), x3, x4, x5, x6] ∧ Bn H' h c p sl (30 + i) (30 + 2 * i) (fun _ => True))
    (fun m H4 hB => ⟨hB.2.1, hB.1, none, none, none, none, rfl, hB.2.2⟩) (fun m i σ' H' hi pp => ?_) (fun m σ' H' pp => ?_)
  · refine op_cons (go_next B0.dw rfl (n := 3) ev_c (by decide) (by decide) fun r H4 x4 D4 r0 r1 => ?_)
    exact k r H4 r0 (by omega) ⟨r0, by omega, B0.next x4 D4 p1 p2 s1 s2⟩
  · obtain ⟨hm, him, x3, x4, x5, x6, rfl, B⟩ := pp
    obtain ⟨Rr, hRr⟩ : ∃ Rr, Rr = 30 + i := ⟨_, rfl⟩
    obtain ⟨Wr, hWr⟩ : ∃ Wr, Wr = 30 + 2 * i := ⟨_, rfl⟩
    rw [← hRr, ← hWr] at B
    have hi2 : i ≤ 1 := by omega
    -- which row, which way
    obtain ⟨vs, v1, v2, v3, _, v5⟩ := B.ro
    have hvl : 0 < vs.length := by
      cases vs with
      | nil => exact absurd rfl v2
      | cons a r => show 0 < r.length + 1; omega
    refine op_par (op_cons (go_next B.dw rfl (ev_len (ev_var rfl) (sq_of v1)) (by omega) (by omega) fun r H2 x2 D2 r0 r1 => op_cons ?_))
    have B2 := B.next x2 D2 p1 p2 s1 s2
    have v12 := x2 _ _ (by simp [p1, p2]) v1
    refine go_next D2 rfl (n := 7) ev_c (by decide) (by decide) fun pa H3 x3 D3 pa0 pa1 => ⟨_, _, rfl, ?_⟩
    have B3 := B2.next x3 D3 p1 p2 s1 s2
    have v13 := x3 _ _ (by simp [p1, p2]) v12
    obtain ⟨rn, rfl⟩ : ∃ rn : Nat, r = (rn : Int) := ⟨r.toNat, by omega⟩
    have rl : rn < vs.length := by omega
    have B4 : Bn H3 h c p sl Rr Wr (fun n => rn < n) := by
      obtain ⟨vs', w1, w2, w3, w4, w5⟩ := B3.ro
      rw [v13] at w1
      cases w1
      exact ⟨B3.dw, B3.so, vs, v13, w2, w3, rl, w5⟩
    -- the row at rn, wherever it is wanted
    have row : ∀ {H9 : Hp} {R W : Nat} {Pr : Nat → Prop} {σ : L2.St}, Bn H9 h c p sl R W Pr → (∀ n, Pr n → rn < n) → σ[1]? = some (some (.ref p)) → σ[4]? = some (some (.int (rn : Nat))) → ∃ a ws, SL H9 a ws ∧ ws.length ≤ W ∧ Sh ws ∧ a ≠ h ∧ a ≠ c ∧ a ≠ sl ∧ a ≠ p ∧ Ev (tOp (rIxL K) (tVar 1) (tVar 4)) σ H9 (.ref a) ∧ ∃ vs' : List V, H9 p = some (.lst vs') ∧ vs'[rn]? = some (.ref a) := fun {H9 R W Pr σ} b hp hσ1 hσ4 => by
      obtain ⟨vs', w1, w2, w3, w4, w5⟩ := b.ro
      have hlt := hp _ w4
      obtain ⟨a, ws, g1, g2, g3, g4, g5, g6, g7, g8⟩ := w5 _ (List.getElem_mem hlt)
      have hx : vs'[rn]? = some (.ref a) := by rw [List.getElem?_eq_getElem hlt, g1]
      exact ⟨a, ws, g2, g3, g4, g5, g6, g7, g8, ev_op (ev_var hσ1) (ev_var hσ4) (rv_ixL (sq_of w1) (atI_nat hx)), vs', w1, hx⟩
    obtain ⟨a0, ws0, g2, g3, g4, g5, g6, g7, g8, ev0, _⟩ := row (σ := [some (.ref h), some (.ref p), some (.ref sl), some (.int (i : Nat)), some (.int (rn : Nat)), some (.int pa), x6]) B4 (fun n z => z) rfl rfl
    refine op_asg (go_next D3 rfl (n := (ws0.length : Int) + 1) (ev_op (ev_is (ev_len ev0 (sq_of g2)) (by rw [List.length_map])) ev_c rv_I0) (by omega) (by omega) fun k H4 x4 D4 k0 k1 => ?_)
    have B5 := B4.next x4 D4 p1 p2 s1 s2
    have hk100 : k < 100 := by omega
    obtain ⟨kn, rfl⟩ : ∃ kn : Nat, k = (kn : Int) := ⟨k.toNat, by omega⟩
    clear v1 v3 v5 v12 v13 B B2 B3 B4 ev0 g2 g3 g4
    obtain ⟨σ0, hσ0⟩ : ∃ σ0 : L2.St, σ0 = [some (.ref h), some (.ref p), some (.ref sl), some (.int (i : Nat)), some (.int (rn : Nat)), some (.int pa), some (.int (kn : Nat))] := ⟨_, rfl⟩
    show tCut _ _ _ [some (.ref h), some (.ref p), some (.ref sl), some (.int (i : Nat)), some (.int (rn : Nat)), some (.int pa), some (.int (kn : Nat))] H4
    -- a word left out
    refine q_cut (M := fun σ' H' => σ' = σ0 ∧ Bn H' h c p sl Rr Wr (fun n => rn < n)) ?_ ?_
    · obtain ⟨a, ws, a1, a2, a3, a4, a5, a6, a7, eva, va, hva, hxa⟩ := row (σ := [some (.ref h), some (.ref p), some (.ref sl), some (.int (i : Nat)), some (.int (rn : Nat)), some (.int pa), some (.int (kn : Nat))]) B5 (fun n z => z) rfl rfl
      refine s_when (et_and (et_test (ev_op (ev_var rfl) ev_c rv_eqi)) fun _ => et_test (ev_op (ev_var rfl) (ev_len eva (sq_of a1)) rv_I0)) (fun hb H6 e6 => ?_) (fun hb H6 e6 => ⟨hσ0.symm, B5.mono e6⟩)
      rw [Bool.and_eq_true, List.length_map] at hb
      have hk := of_decide_eq_true hb.2
      refine (eva.mono e6) H6 (Ex.refl H6) _ fun H7 e7 => ⟨.inl ⟨rfl, _, sq_of (e7 _ _ (e6 _ _ a1))⟩, _, rfl, ?_⟩
      obtain ⟨k9, q1, q2, q3, q4, q5⟩ := at_pop (ws := ws) (r := (kn : Int)) (by omega) hk
      exact ⟨a, _, _, k9, _, rfl, rfl, e7 _ _ (e6 _ _ a1), q2, by omega, q4, q5, hσ0.symm, (B5.mono (e6.trans e7)).set a4 a5 a6 a7 (Nat.le_refl _) (by rw [List.length_eraseIdx_of_lt q1]; omega) (a3.erase (k := k9)) _ (by rw [erase_str])⟩
    rintro σ' H5 ⟨rfl, B6⟩
    subst hσ0
    -- a word put in
    refine q_cut (M := fun σ' H' => σ' = [some (.ref h), some (.ref p), some (.ref sl), some (.int (i : Nat)), some (.int (rn : Nat)), some (.int pa), some (.int (kn : Nat))] ∧ Bn H' h c p sl Rr (Wr + 1) (fun n => rn < n)) ?_ ?_
    · refine s_when (et_and (et_test (ev_op (ev_var rfl) ev_c rv_I0)) fun _ => et_test (ev_op (ev_var rfl) ev_c rv_I0)) (fun hb H6 e6 => ?_) (fun hb H6 e6 => ⟨rfl, (B6.mono e6).up (Nat.le_refl _) (by omega) fun n z => z⟩)
      have B7 := B6.mono e6
      obtain ⟨a, ws, a1, a2, a3, a4, a5, a6, a7, eva, va, hva, hxa⟩ := row (σ := [some (.ref h), some (.ref p), some (.ref sl), some (.int (i : Nat)), some (.int (rn : Nat)), some (.int pa), some (.int (kn : Nat))]) B7 (fun n z => z) rfl rfl
      refine eva H6 (Ex.refl H6) _ fun H7 e7 => ⟨.inl ⟨rfl, _, sq_of (e7 _ _ a1)⟩, _, rfl, op_cons ⟨_, rfl, ?_⟩⟩
      refine go_next (B7.mono e7).dw rfl (n := 12) ev_c (by decide) (by decide) fun r2 H8 x8 D8 r20 r21 => ?_
      obtain ⟨z, hz, hzl⟩ := pick12 r20 r21
      have B8 := (B7.mono e7).next x8 D8 p1 p2 s1 s2
      refine ⟨sl, _, r2, _, rfl, rfl, sq_of B8.so, hz, a, _, _, _, rfl, rfl, x8 _ _ (by simp [a4, a5]) (e7 _ _ a1), sz_lt (by rw [List.length_map]; omega), by omega, by omega, rfl, ?_⟩
      exact B8.set a4 a5 a6 a7 (by omega) (by rw [insL]; omega) (a3.ins (k := kn) hzl) _ (by rw [← ins_str]; rfl)
    rintro σ' H6 ⟨rfl, B7⟩
    -- a word changed
    refine q_cut (M := fun σ' H' => σ' = [some (.ref h), some (.ref p), some (.ref sl), some (.int (i : Nat)), some (.int (rn : Nat)), some (.int pa), some (.int (kn : Nat))] ∧ Bn H' h c p sl Rr (Wr + 1) (fun n => rn < n)) ?_ ?_
    · obtain ⟨a, ws, a1, a2, a3, a4, a5, a6, a7, eva, va, hva, hxa⟩ := row (σ := [some (.ref h), some (.ref p), some (.ref sl), some (.int (i : Nat)), some (.int (rn : Nat)), some (.int pa), some (.int (kn : Nat))]) B7 (fun n z => z) rfl rfl
      refine s_when (et_and (et_test (ev_op (ev_var rfl) ev_c rv_eqi)) fun _ => et_test (ev_op (ev_var rfl) (ev_len eva (sq_of a1)) rv_I0)) (fun hb H7 e7 => ?_) (fun hb H7 e7 => ⟨rfl, B7.mono e7⟩)
      rw [Bool.and_eq_true, List.length_map] at hb
      have hk := of_decide_eq_true hb.2
      refine ⟨_, rfl, ?_⟩
      refine go_next (B7.mono e7).dw rfl (n := 12) ev_c (by decide) (by decide) fun r2 H8 x8 D8 r20 r21 => ?_
      obtain ⟨z, hz, hzl⟩ := pick12 r20 r21
      have B8 := (B7.mono e7).next x8 D8 p1 p2 s1 s2
      refine ⟨sl, _, r2, _, rfl, rfl, sq_of B8.so, hz, ?_⟩
      have a18 := x8 _ _ (by simp [a4, a5]) (e7 _ _ a1)
      have hva8 := x8 _ _ (by simp [p1, p2]) (e7 _ _ hva)
      refine (ev_op (ev_var rfl) (ev_var rfl) (rv_ixL (sq_of hva8) (atI_nat hxa))) H8 (Ex.refl H8) _ fun H9 e9 => ⟨_, rfl, a, _, (kn : Int), kn, rfl, rfl, e9 _ _ a18, ixN_nat (by rw [List.length_map]; omega), rfl, ?_⟩
      refine (B8.mono e9).set (ws := ws.set kn z) a4 a5 a6 a7 (Nat.le_refl _) (by rw [List.length_set]; exact a2) (fun y hy => ?_) _ (by rw [List.map_set])
      rcases List.mem_or_eq_of_mem_set hy with t | t
      · exact a3 y t
      · rw [t]
        exact hzl
    rintro σ' H7 ⟨rfl, B8⟩
    -- a row doubled
    refine q_cut (M := fun σ' H' => σ' = [some (.ref h), some (.ref p), some (.ref sl), some (.int (i : Nat)), some (.int (rn : Nat)), some (.int pa), some (.int (kn : Nat))] ∧ Bn H' h c p sl (Rr + 1) (Wr + 1) (fun n => rn < n)) ?_ ?_
    · refine s_when (et_test (ev_op (ev_var rfl) ev_c rv_eqi)) (fun hb H8 e8 => ?_) (fun hb H8 e8 => ⟨rfl, (B8.mono e8).up (by omega) (Nat.le_refl _) fun n z => z⟩)
      have B9 := B8.mono e8
      obtain ⟨vs', w1, w2, w3, w4, w5⟩ := B9.ro
      refine ⟨_, rfl, .inl ⟨rfl, _, sq_of w1⟩, _, rfl, op_cons (op_cb (op_cons ⟨_, rfl, ?_⟩))⟩
      refine go_next B9.dw rfl (ev_len (ev_var rfl) (sq_of w1)) (by omega) (by omega) fun r2 H9 x9 D9 r20 r21 => ?_
      obtain ⟨rm, rfl⟩ : ∃ rm : Nat, r2 = (rm : Int) := ⟨r2.toNat, by omega⟩
      have hrm : rm < vs'.length := by omega
      obtain ⟨b, wb, b1, b2, b3, b4, b5, b6, b7, b8⟩ := w5 _ (List.getElem_mem hrm)
      have w19 := x9 _ _ (by simp [p1, p2]) w1
      have b29 := x9 _ _ (by simp [b5, b6]) b2
      refine ⟨p, _, _, _, rfl, rfl, sq_of w19, atI_nat (by rw [List.getElem?_eq_getElem hrm, b1]), b, _, rfl, .inl (sq_of b29), fun nl hnl => ?_⟩
      have e10 : Ex H9 (upd H9 nl (.lst (wb.map V.str))) := Ex.new hnl
      have B10 := (B9.next x9 D9 p1 p2 s1 s2).mono e10
      obtain ⟨n1, n2⟩ := new_ne D9 hnl
      have n3 : nl ≠ sl := (ne_of_none ((B9.next x9 D9 p1 p2 s1 s2).so) hnl).symm
      have n4 : nl ≠ p := (ne_of_none w19 hnl).symm
      have hnl1 : SL (upd H9 nl (.lst (wb.map V.str))) nl wb := upd_same
      have w110 := e10 _ _ w19
      revert e10 B10 hnl1 w110
      generalize upd H9 nl (.lst (wb.map V.str)) = H10
      intro e10 B10 hnl1 w110
      obtain ⟨vs2, u1, u2, u3, u4, u5⟩ := B10.ro
      rw [w110] at u1
      cases u1
      refine ⟨p, vs', (rn : Int), .ref nl, rfl, rfl, w110, sz_lt (by omega), by omega, by omega, rfl, ?_⟩
      refine ⟨B10.dw.upd p1 p2, ?_, _, upd_same, by simp, ?_, ?_, fun v hv => ?_⟩
      · show upd H10 p _ sl = _
        rw [upd_ne sp.symm]
        exact B10.so
      · show (vs'.take rn ++ [V.ref nl] ++ vs'.drop rn).length ≤ _
        rw [List.length_append, List.length_append, List.length_singleton, List.length_take, List.length_drop]
        omega
      · show rn < (vs'.take rn ++ [V.ref nl] ++ vs'.drop rn).length
        rw [List.length_append, List.length_append, List.length_singleton, List.length_take, List.length_drop]
        omega
      · have key : RowM H10 h c p sl (Wr + 1) v := by
          rcases List.mem_append.mp hv with t | t
          · rcases List.mem_append.mp t with t | t
            · exact u5 v (List.mem_of_mem_take t)
            · rw [List.mem_singleton.mp t]
              exact ⟨nl, wb, rfl, hnl1, b3, b4, n1, n2, n3, n4⟩
          · exact u5 v (List.mem_of_mem_drop t)
        obtain ⟨b', ws', t1, t2, t3, t4, t5, t6, t7, t8⟩ := key
        refine ⟨b', ws', t1, ?_, t3, t4, t5, t6, t7, t8⟩
        show upd H10 p _ b' = _
        rw [upd_ne t8]
        exact t2
    rintro σ' H8 ⟨rfl, B9⟩
    -- a row left out
    refine q_cut (M := fun σ' H' => σ' = [some (.ref h), some (.ref p), some (.ref sl), some (.int (i : Nat)), some (.int (rn : Nat)), some (.int pa), some (.int (kn : Nat))] ∧ Bn H' h c p sl (Rr + 1) (Wr + 1) (fun n => pa = 6 → rn < n)) ?_ ?_
    · obtain ⟨vs', w1, w2, w3, w4, w5⟩ := B9.ro
      refine s_when (et_and (et_test (ev_op (ev_var rfl) ev_c rv_eqi)) fun _ => et_test (ev_op (ev_len (ev_var rfl) (sq_of w1)) ev_c rv_I0)) (fun hb H9 e9 => ?_) (fun hb H9 e9 => ⟨rfl, (B9.mono e9).up (Nat.le_refl _) (Nat.le_refl _) fun n z _ => z⟩)
      rw [Bool.and_eq_true] at hb
      have h5 := of_decide_eq_true hb.1
      have h1 := of_decide_eq_true hb.2
      have w19 := e9 _ _ w1
      refine ⟨_, rfl, .inl ⟨rfl, _, sq_of w19⟩, _, rfl, p, vs', (rn : Int), rn, _, rfl, rfl, w19, by omega, by omega, (ixN_seq (ixN_nat w4)).1, List.getElem?_eq_getElem w4, rfl, ?_⟩
      have B10 := B9.mono e9
      refine ⟨B10.dw.upd p1 p2, ?_, _, upd_same, ?_, ?_, fun z => by omega, fun v hv => ?_⟩
      · show upd H9 p _ sl = _
        rw [upd_ne sp.symm]
        exact B10.so
      · intro z
        have := congrArg List.length z
        rw [List.length_eraseIdx_of_lt w4] at this
        simp at this
        omega
      · rw [List.length_eraseIdx_of_lt w4]
        omega
      · obtain ⟨b', ws', t1, t2, t3, t4, t5, t6, t7, t8⟩ := (w5 v (List.mem_of_mem_eraseIdx hv)).mono e9
        refine ⟨b', ws', t1, ?_, t3, t4, t5, t6, t7, t8⟩
        show upd H9 p _ b' = _
        rw [upd_ne t8]
        exact t2
    rintro σ' H9 ⟨rfl, B10⟩
    -- one deeper
    refine s_when (et_test (ev_op (ev_var rfl) ev_c rv_eqi)) (fun hb H10 e10 => ?_) (fun hb H10 e10 => ⟨hm, by omega, _, _, _, _, rfl, (B10.mono e10).up (by omega) (by omega) fun n z => trivial⟩)
    have h6 := of_decide_eq_true hb
    have B11 := B10.mono e10
    obtain ⟨a, ws, a1, a2, a3, a4, a5, a6, a7, eva, va, hva, hxa⟩ := row (σ := [some (.ref h), some (.ref p), some (.ref sl), some (.int (i : Nat)), some (.int (rn : Nat)), some (.int pa), some (.int (kn : Nat))]) B11 (fun n z => z h6) rfl rfl
    refine eva H10 (Ex.refl H10) _ fun H11 e11 => ⟨.inl ⟨rfl, _, sq_of (e11 _ _ a1)⟩, a, _, 0, .str ">", rfl, rfl, e11 _ _ a1, sz_lt (by rw [List.length_map]; omega), by omega, by omega, hm, by omega, _, _, _, _, rfl, ?_⟩
    refine ((B11.mono e11).set (W' := Wr + 1 + 1) a4 a5 a6 a7 (by omega) (by rw [insL (k := 0) (z := ">")]; omega) (a3.ins (k := 0) (z := ">") (by decide)) _ (by rw [← ins_str]; rfl)).up (by omega) (by omega) fun n z => trivial
  · obtain ⟨hm, him, x3, x4, x5, x6, rfl, B⟩ := pp
    obtain ⟨vs, v1, v2, v3, _, v5⟩ := B.ro
    refine ⟨_, rfl, q H' vs B.dw v1 (by omega) fun v hv => ?_⟩
    obtain ⟨a, ws, g1, g2, g3, g4, _⟩ := v5 v hv
    exact ⟨a, ws, g1, g2, by omega, g4⟩
end
end K56
set_option Elab.async false
set_option linter.all false
set_option maxRecDepth 100000
set_option maxHeartbeats 4000000
/-! K56, part D23: the law. -/
namespace K56
open PySem PySem.W PyProof.Rows L2 Evl He
theorem str_len (a b : Str) : (a ++ b).length = a.length + b.length := by
  show (a.cps ++ b.cps).size = a.cps.size + b.cps.size
  rw [Array.size_append]
def LJ : Str := "abcdefghij"
def sg (j : Nat) : Str := ⟨#[(LJ.cps.toList[j]?).getD 0]⟩
theorem at_sg {j : Nat} (h : j < 10) : atI LJ.cps.toList ((j : Nat) : Int) = some ((LJ.cps.toList[j]?).getD 0) := atI_nat (by
  have hl : LJ.cps.toList.length = 10 := by decide +kernel
  rw [List.getElem?_eq_getElem (by omega)]
  rfl)
def nm2 (k : Nat) : Str := sg (k / 10) ++ sg (k % 10)
def nm3 (k : Nat) : Str := (("f" : Str) ++ sg (k / 10)) ++ sg (k % 10)
theorem sg_len (j : Nat) : (sg j).length = 1 := rfl
theorem nm2_len (k : Nat) : (nm2 k).length = 2 := by
  unfold nm2
  rw [str_len, sg_len, sg_len]
theorem nm3_len (k : Nat) : (nm3 k).length = 3 := by
  unfold nm3
  rw [str_len, str_len, sg_len, sg_len]
  rfl
theorem given_all (n : Nat) (v : Nat → V) : Evl.given n (fun _ => true) v = (List.range n).map v := by
  unfold Evl.given
  rw [List.filter_eq_self.mpr fun _ _ => rfl]
section
variable {σ : L2.St} {H : Hp} {ta : TA} {te : TE} {D : Ends}
theorem op_consC {v : V} {Q : List V → Hp → Prop} (h : ta σ H fun xs H2 => Q (v :: xs) H2) : tCons (tC v) ta σ H Q := h
theorem rI0_go {g : Int → Int → V} {a b : Int} {v : V} {Q : VK} (e : g a b = v) (h : Q v H) : rI0 g (.int a) (.int b) H Q := ⟨a, b, rfl, rfl, by rw [e]; exact h⟩
theorem op_nil {Q : List V → Hp → Prop} (h : Q [] H) : tNil σ H Q := h
theorem op_lcR {g : TG} {tt : TT} {vs : List Nat} {Q : VK} (h : ta σ H fun xs H1 => tLc (iRng1 fun _ H Q => Q xs H) g tt te vs σ H1 Q) : tLc (iRng1 ta) g tt te vs σ H Q := h
theorem op_tup {Q : VK} (h : ta σ H fun xs H1 => xs.length ≤ sizeLine ∧ ∀ p, H1 p = none → Q (.ref p) (upd H1 p (.tup xs))) : tTup ta σ H Q := h
theorem rv_cat {a b : Str} (h : a.length + b.length ≤ 30000) : RV (fun x y H Q => ∃ i j : Str, x = .str i ∧ y = .str j ∧ i.length + j.length ≤ sizeLine ∧ Q (.str (i ++ j)) H) (.str a) (.str b) H (.str (a ++ b)) := fun H1 _ _ q => ⟨a, b, rfl, rfl, sz_of (by omega), q H1 (Ex.refl H1)⟩
theorem ev_jn {K : Frag} {a : Str} {p : Addr} {ys : List Str} (hv : Ev te σ H (.ref p)) (h : ST H p ys) (hz : (ys.map (·.length)).sum + ys.length * a.length ≤ 16777216) : Ev (tM1 (rJn K) (tC (.str a)) te) σ H (.str (Txt.join a ys)) := fun H1 e Q q =>
  ⟨⟨_, rfl⟩, hv H1 e _ fun H2 e2 => ⟨a, p, ys, rfl, rfl, .inr (st_of ((e.trans e2) _ _ h)), hz, q H2 e2⟩⟩
end
section
variable {P : Program} {w : World} {K : Frag} {mg : Str → Option Value} {base : Heap}
def spLaw (K : Frag) : Sp := fun vs H Q _ => ∃ (a : Addr) (ns : List Int), vs = [.ref a] ∧ SqL K H a (ns.map V.int) ∧ ns.length ≤ 63 ∧ ∀ H', Q (.bl true) H'
/-- alike(parsed(t), read(t)) -/
theorem go_same {σ : L2.St} {H : Hp} {i : Nat} {t : Str} {Q : VK} (hi : σ[i]? = some (some (.str t))) (ht : t.length ≤ 20000) (q : ∀ H', Ex H H' → Q (.bl true) H') :
    tK (spAlike 21) E0 (tCons (tK spParsed E0 (tCons (tVar i) tNil)) (tCons (tK spRead E0 (tCons (tVar i) tNil)) tNil)) σ H Q := by
  refine op_k (op_cons (go_k (ea_cons (ev_var hi) ea_nil) fun H1 e1 => ⟨t, rfl, ht, fun v H2 e2 hv => op_cons (go_k (ea_cons (ev_var hi) ea_nil) fun H3 e3 => ⟨t, rfl, ht, fun v2 H4 e4 hv2 => ?_⟩)⟩))
  exact ⟨v, v2, rfl, (alk_res (hv.mono (e3.trans e4)) hv2).up (by omega), fun H5 e5 => q H5 ((((e1.trans e2).trans e3).trans e4).trans e5)⟩
theorem sc_law : FnScope ["_law_script", "_law_h", "_law_lap", "_law_rows", "_law_text_here", "_law_letters", "_law_many", "_law_names", "_law_deep", "_law_found", "_law_wide", "_law_k"] ["_law_script"] (defScope sLaw) := ⟨rfl, rfl, rfl, by decide +kernel, rfl, by decide +kernel, by decide +kernel⟩
theorem ok_law (T : TX P K mg) {fd : FuncData} (F : Fun K "law" "law" sLaw (ga K "law") fd) : FnOk P w K mg base CX0 (25 + 1) (ga K "law") fd ["_law_script"] (spLaw K) := by
  refine F.ok sc_law (fun vs H Q E h => ?_) (fun cdv A outs s H vs Q E hr h => ?_)
  · obtain ⟨_, _, rfl, _⟩ := h; rfl
  obtain ⟨a, ns, rfl, hS, h63, q⟩ := h
  refine ⟨_, (pss_cons (ps_set (i := 1) sc_law.nd rfl (Or.inl rfl) (pe_c (ok_l_mix T) hr (by omega) T.g_l_mix (E := E0) passN (pa_cons (pv 0) (pa_cons pe_int pa_nil))))
      (pss_cons (ps_for PassesOwn.never rfl (pi_range1 rfl T.b_range (pa_cons pe_int pa_nil)) (pg_name (i := 2) sc_law.nd rfl (Or.inl rfl)) (pss_cons (ps_set (i := 3) sc_law.nd rfl (Or.inl rfl) (pe_c (ok_l_bent T) hr (by omega) T.g_l_bent (E := E0) passN (pa_cons (pv 1) (pa_cons (pe_c (ok_l_rows_of T) hr (by omega) T.g_l_rows_of (E := E0) passN (pa_cons (pe_c (ok_l_drawn T) hr (by omega) T.g_l_drawn (E := E0) passN (pa_cons (pv 1) (pa_cons (pe_c (ok_l_facts T) hr (by omega) T.g_l_facts (E := E0) passN (pa_cons (pv 1) (pa_cons pe_int pa_nil))) (pa_cons pe_int pa_nil)))) pa_nil)) pa_nil))))
      (pss_cons (ps_set (i := 4) sc_law.nd rfl (Or.inl rfl) (pe_c (ok_l_text T) hr (by omega) T.g_l_text (E := E0) passN (pa_cons (pv 3) pa_nil)))
      (pss_one (ps_if (pt_not (pt_val (pe_c (ok_l_alike T 21) hr (by omega) T.g_l_alike (E := E0) passN (pa_cons (pe_c (ok_l_parsed T) hr (by omega) T.g_l_parsed (E := E0) passN (pa_cons (pv 4) pa_nil)) (pa_cons (pe_c (ok_l_read T) hr (by omega) T.g_l_read (E := E0) passN (pa_cons (pv 4) pa_nil)) pa_nil))))) (pss_one (ps_ret pe_bl)) pss_nil)))))
      (pss_cons (ps_asg (pe_tup (pa_cons pe_str (pa_cons (pe_op op_add pe_int (pe_c (ok_l_next T) hr (by omega) T.g_l_next (E := E0) passN (pa_cons (pv 1) (pa_cons pe_int pa_nil)))) pa_nil))) (pg_tup rfl (pgs_cons (pg_name (i := 5) sc_law.nd rfl (Or.inr rfl)) (pgs_cons (pg_name (i := 6) sc_law.nd rfl (Or.inl rfl)) pgs_nil))))
      (pss_cons (ps_set (i := 7) sc_law.nd rfl (Or.inr rfl) (pe_lc (own := [("_law_k", 11)]) (g := (gName 11)) (tt := tYes)  rfl sc_law.nd (pi_range1 rfl T.b_range (pa_cons (pv 6) pa_nil)) (blkOk_by (own := [("_law_k", 11)]) (N := ["_law_script", "_law_h", "_law_lap", "_law_rows", "_law_text_here", "_law_letters", "_law_many", "_law_names", "_law_deep", "_law_found", "_law_wide", "_law_k"]) (sc := defScope sLaw) (by decide +kernel)) (fun _ _ _ _ _ => (pg_name (i := 11) sc_law.nd rfl (Or.inl rfl) (.inr (by rfl)))) (fun _ _ _ _ _ => pts_nil) (fun _ _ _ _ _ => (pe_op op_add_str (pe_ix ix_str (pv 5) (pe_op op_fdiv (pv 11) pe_int) (fun _ _ => rfl)) (pe_ix ix_str (pv 5) (pe_op op_mod (pe_callTy call_int1 (by rfl) T.b_int (by decide +kernel) (pa_cons (pv 11) pa_nil)) pe_int) (fun _ _ => rfl))))))
      (pss_cons (ps_set (i := 8) sc_law.nd rfl (Or.inr rfl) (pe_c (ok_l_next T) hr (by omega) T.g_l_next (E := E0) passN (pa_cons (pv 1) (pa_cons pe_int pa_nil))))
      (pss_cons (ps_set (i := 3) sc_law.nd rfl (Or.inl rfl) (pe_op op_cat (pe_lst (pa_cons (pe_lst (pa_cons pe_str (pa_cons pe_str pa_nil))) pa_nil)) (pe_lc (own := [("_law_k", 11)]) (g := (gName 11)) (tt := tYes)  rfl sc_law.nd (pi_range1 rfl T.b_range (pa_cons (pv 6) pa_nil)) (blkOk_by (own := [("_law_k", 11)]) (N := ["_law_script", "_law_h", "_law_lap", "_law_rows", "_law_text_here", "_law_letters", "_law_many", "_law_names", "_law_deep", "_law_found", "_law_wide", "_law_k"]) (sc := defScope sLaw) (by decide +kernel)) (fun _ _ _ _ _ => (pg_name (i := 11) sc_law.nd rfl (Or.inl rfl) (.inr (by rfl)))) (fun _ _ _ _ _ => pts_nil) (fun _ _ _ _ _ => (pe_op op_cat (pe_op op_rep (pe_lst (pa_cons pe_str pa_nil)) (pe_callTy call_int1 (by rfl) T.b_int (by decide +kernel) (pa_cons (pe_and (pe_cmpR op_gt (pv 11) pe_int (nomark _)) (pe_one (pe_cmpR op_eq (pv 8) pe_int (nomark _)))) pa_nil))) (pe_lst (pa_cons (pe_ix (show IxR _ (rIxL K) from ix_list) (pv 7) (pv 11) (fun _ _ => rfl)) (pa_cons pe_str (pa_cons pe_str pa_nil)))))))))
      (pss_cons (ps_set (i := 4) sc_law.nd rfl (Or.inl rfl) (pe_c (ok_l_text T) hr (by omega) T.g_l_text (E := E0) passN (pa_cons (pe_op op_cat (pv 3) (pe_lst (pa_cons (pe_lst (pa_cons pe_str (pa_cons pe_str pa_nil))) pa_nil))) pa_nil)))
      (pss_cons (ps_set (i := 9) sc_law.nd rfl (Or.inl rfl) (pe_callTy call_tuple_of (by rfl) T.b_tuple (by decide +kernel) (pa_cons (pe_lc (own := [("_law_k", 11)]) (g := (gName 11)) (tt := tYes)  rfl sc_law.nd (pi_range1 rfl T.b_range (pa_cons (pe_op op_add pe_int (pe_c (ok_l_next T) hr (by omega) T.g_l_next (E := E0) passN (pa_cons (pv 1) (pa_cons pe_int pa_nil)))) pa_nil)) (blkOk_by (own := [("_law_k", 11)]) (N := ["_law_script", "_law_h", "_law_lap", "_law_rows", "_law_text_here", "_law_letters", "_law_many", "_law_names", "_law_deep", "_law_found", "_law_wide", "_law_k"]) (sc := defScope sLaw) (by decide +kernel)) (fun _ _ _ _ _ => (pg_name (i := 11) sc_law.nd rfl (Or.inl rfl) (.inr (by rfl)))) (fun _ _ _ _ _ => pts_nil) (fun _ _ _ _ _ => (pe_op op_add_str (pe_op op_add_str pe_str (pe_ix ix_str (pv 5) (pe_op op_fdiv (pv 11) pe_int) (fun _ _ => rfl))) (pe_ix ix_str (pv 5) (pe_op op_mod (pe_callTy call_int1 (by rfl) T.b_int (by decide +kernel) (pa_cons (pv 11) pa_nil)) pe_int) (fun _ _ => rfl))))) pa_nil)))
      (pss_cons (ps_set (i := 10) sc_law.nd rfl (Or.inl rfl) (pe_op op_add_str (pe_op op_add_str pe_str (pe_jn pe_str (pv 9))) pe_str))
      (pss_one (ps_ret (pe_c (ok_l_alike T 21) hr (by omega) T.g_l_alike (E := E0) passN (pa_cons (pe_lst (pa_cons (pe_c (ok_l_parsed T) hr (by omega) T.g_l_parsed (E := E0) passN (pa_cons (pv 4) pa_nil)) (pa_cons (pe_c (ok_l_parsed T) hr (by omega) T.g_l_parsed (E := E0) passN (pa_cons (pv 10) pa_nil)) pa_nil))) (pa_cons (pe_lst (pa_cons (pe_c (ok_l_read T) hr (by omega) T.g_l_read (E := E0) passN (pa_cons (pv 4) pa_nil)) (pa_cons (pe_c (ok_l_read T) hr (by omega) T.g_l_read (E := E0) passN (pa_cons (pv 10) pa_nil)) pa_nil))) pa_nil)))))))))))))), ?_⟩
  refine op_asg (go_k (ea_cons (ev_var rfl) (ea_cons ev_c ea_nil)) fun H0 e0 => ?_)
  refine ⟨a, ns, 60, rfl, ex_l e0 hS, h63, by decide, by decide, fun hh c H1 e1 D1 => ?_⟩
  refine q_forR1 (n := 8) (ea_cons ev_c ea_nil) (by omega) (fun i σ' H' => (∃ x2 x3 x4, σ' = [some (.ref a), some (.ref hh), x2, x3, x4, none, none, none, none, none, none, none]) ∧ Dw H' hh c)
    (fun H2 e2 => ⟨⟨_, _, _, rfl⟩, D1.mono e2⟩) (fun i σ' H2 hi p => ?_) (fun σ' H2 p => ?_)
  · obtain ⟨⟨x2, x3, x4, rfl⟩, D2⟩ := p
    -- rows
    refine op_asg (op_k (op_cons ⟨_, rfl, op_cons (op_k (op_cons (op_k (op_cons ⟨_, rfl, op_cons ?_⟩))))⟩))
    refine go_k (ea_cons (ev_var rfl) (ea_cons ev_c ea_nil)) fun H3 e3 => ⟨hh, c, 10, rfl, D2.mono e3, by decide, by decide, fun fa fs H4 y4 D4 hF sF lF => op_consC ?_⟩
    refine ⟨hh, c, fa, fs, 4, rfl, D4, hF, sF, lF, by omega, fun t ra xs ru H5 y5 D5 hT hF5 hX lX rX lru => ?_⟩
    refine ⟨t, fa, ra, fs, xs, ru, rfl, hT, hF5, sF, lF, hX, lX, rX, lru, fun pr rows H6 e6 np hp hne hlen hrw => ?_⟩
    obtain ⟨n1, n2⟩ := new_ne D5 np
    refine ⟨hh, c, pr, rows, rfl, D5.mono e6, n1, n2, hp, hne, hlen, fun v hv => ?_, fun H7 rows' D7 hp7 l7 r7 => ?_⟩
    · obtain ⟨⟨b, ws, g1, g2, g3, g4, g5⟩, g6⟩ := hrw v hv
      obtain ⟨m1, m2⟩ := new_ne D5 g5
      exact ⟨b, ws, g1, g2, g3, g4, m1, m2, fun z => g6 (by rw [g1, z])⟩
    -- a text
    refine op_asg (go_k (ea_cons (ev_var rfl) ea_nil) fun H8 e8 => ?_)
    refine ⟨pr, rows', 32, 34, rfl, e8 _ _ hp7, l7, fun v hv => ?_, by decide, fun t H9 e9 ht => ?_⟩
    · obtain ⟨b, ws, g1, g2, g3, g4⟩ := r7 v hv
      exact ⟨b, ws, g1, e8 _ _ g2, g3, g4⟩
    have D9 := (D7.mono e8).mono e9
    show tIfS (tNot (tB _)) _ _ _ _ _
    refine go_same rfl ht fun H10 e10 => ⟨true, rfl, ite2 (fun z => nomatch z) fun _ => ?_⟩
    exact ⟨⟨_, _, _, rfl⟩, D9.mono e10⟩
  · obtain ⟨⟨x2, x3, x4, rfl⟩, D2⟩ := p
    -- many rules
    refine op_asg (op_tup (op_consC (op_cons (op_opC (go_next D2 rfl (n := 26) ev_c (by decide) (by decide) fun r H3 y3 D3 r0 r1 => rI0_go (v := .int ((38 + r).toNat : Nat)) (by show V.int (38 + r) = _; congr 1; omega) ⟨by show 2 ≤ sizeLine; decide, fun tp htp => ?_⟩)))))
    refine g_two upd_same ?_
    obtain ⟨m, hm⟩ : ∃ m : Nat, m = (38 + r).toNat := ⟨_, rfl⟩
    have hm63 : m ≤ 63 := by omega
    rw [← hm]
    have D4 := D3.mono (Ex.new (o := .tup [.str "abcdefghij", .int (m : Nat)]) htp)
    revert D4
    generalize upd H3 tp (.tup [.str "abcdefghij", .int (m : Nat)]) = H4
    intro D4
    have ixs : ∀ {j : Nat} {H9 : Hp}, j < 10 → RV rIxS (.str LJ) (.int (j : Nat)) H9 (.str (sg j)) := fun h => rv_ixS (by decide) (at_sg h)
    have d10 : ∀ {k : Nat}, ((k : Nat) : Int) / 10 = ((k / 10 : Nat) : Int) := fun {k} => by omega
    have m10 : ∀ {k : Nat}, ((k : Nat) : Int) % 10 = ((k % 10 : Nat) : Int) := fun {k} => by omega
    refine q_asgL (xs := ((List.range m).map nm2).map V.str) ?_ fun nl H5 hnl e5 hN => ?_
    · have := el_lcR1 (H := H4) (σ := [some (.ref a), some (.ref hh), x2, x3, x4, some (.str LJ), some (.int (m : Nat)), none, none, none, none, none]) (j := 11) (vs := [11]) (n := (m : Nat)) (ta := tCons (tVar 6) tNil) (t := tYes) (te := tOp (fun x y H Q => ∃ i j : Str, x = .str i ∧ y = .str j ∧ i.length + j.length ≤ sizeLine ∧ Q (.str (i ++ j)) H) (tOp rIxS (tVar 5) (tOp (rI CDiv fun i j => .int (i / j)) (tVar 11) (tC (.int 10)))) (tOp rIxS (tVar 5) (tOp (rI (fun _ j => 0 < j) fun i j => .int (i % j)) (tCB (fun xs H Q => (∃ i, xs = [.int i] ∧ Q (.int i) H) ∨ ∃ k, xs = [.bl k] ∧ Q (.int (if k then 1 else 0)) H) (tCons (tVar 11) tNil)) (tC (.int 10)))))
        (fun _ => true) (fun i => .str (nm2 i)) (ea_cons (ev_var rfl) ea_nil) (by omega) (fun x => rfl) (fun i H9 e9 hi => et_yes) (fun i H9 e9 hi hf => ?_)
      · rw [given_all, show ((m : Nat) : Int).toNat = m from rfl] at this
        rw [List.map_map]
        exact this
      · exact ev_op (ev_op (ev_var rfl) (ev_is (ev_op (ev_var rfl) ev_c (rv_div (by decide) (by decide))) (by rw [d10])) (ixs (by omega))) (ev_op (ev_var rfl) (ev_is (ev_op (ev_int (ev_var rfl)) ev_c (rv_mod (by decide))) (by rw [m10])) (ixs (by omega))) (rv_cat (by rw [sg_len, sg_len]; decide))
    have D5 := D4.mono e5
    refine op_asg (go_next D5 rfl (n := 2) ev_c (by decide) (by decide) fun dp H6 y6 D6 dp0 dp1 => ?_)
    obtain ⟨nn1, nn2⟩ := new_ne D4 hnl
    have hN6 : SL H6 nl ((List.range m).map nm2) := y6 _ _ (by simp [nn1, nn2]) hN
    -- the rows
    refine op_asg (op_op (op_lst (op_cons ?_)))
    refine el_lst (vs := [V.str "facts", .str "late"]) (ea_cons ev_c (ea_cons ev_c ea_nil)) (by show 2 ≤ 100000; decide) H6 (Ex.refl H6) _ fun p1 H7 hp1 e7 h7 => ⟨by show 1 ≤ sizeLine; decide, fun q1 hq1 => ?_⟩
    have e8 : Ex H7 (upd H7 q1 (.lst [.ref p1])) := Ex.new hq1
    have h8 : upd H7 q1 (.lst [.ref p1]) q1 = some (.lst [.ref p1]) := upd_same
    revert e8 h8
    generalize upd H7 q1 (.lst [.ref p1]) = H8
    intro e8 h8
    have e68 := e7.trans e8
    refine ⟨_, rfl, (m : Int), rfl, by omega, by omega, fun Dl hD => ?_⟩
    refine lc_range (lo := 0) (n := m) (fun i H' => ∃ acc : List V, Ex H8 H' ∧ H' Dl = some (.lst acc) ∧ acc.length = i ∧ ∀ v ∈ acc, ∃ a ws, v = .ref a ∧ SL H' a ws ∧ ws.length ≤ 5 ∧ Sh ws ∧ a ≠ Dl) ⟨[], Ex.new hD, upd_same, rfl, fun v hv => by cases hv⟩ (fun i H' hi pp => ?_) (fun H' pp => ?_)
    · obtain ⟨acc, b1, b2, b3, b4⟩ := pp
      refine ⟨rfl, ?_⟩
      have e0i : (0 : Int) + (i : Int) = (i : Int) := Int.zero_add _
      rw [e0i]
      have hnm : ((List.range m).map nm2)[i]? = some (nm2 i) := by
        rw [List.getElem?_map, List.getElem?_range hi]
        rfl
      obtain ⟨bb, hbb⟩ : ∃ bb : Bool, bb = (decide ((20 : Int) < (i : Int)) && decide (dp = 1)) := ⟨_, rfl⟩
      have EL : EvL (tOp rCat (tOp rRep (tLst (tCons (tC (.str ">")) tNil)) (tCB (fun xs H Q => (∃ i, xs = [.int i] ∧ Q (.int i) H) ∨ ∃ k, xs = [.bl k] ∧ Q (.int (if k then 1 else 0)) H) (tCons (tAndV (tOp (rI0 fun i j => .bl (decide (j < i))) (tVar 11) (tC (.int 20))) (tOp rEq (tVar 8) (tC (.int 1)))) tNil))) (tLst (tCons (tOp (rIxL K) (tVar 7) (tVar 11)) (tCons (tC (.str "is")) (tCons (tC (.str "fine")) tNil)))))
          [some (.ref a), some (.ref hh), x2, x3, x4, some (.str LJ), some (.int (m : Nat)), some (.ref nl), some (.int dp), none, none, some (.int (i : Nat))] H' ((List.replicate (if bb then 1 else 0) (">" : Str) ++ [nm2 i, "is", "fine"]).map V.str) := by
        have := el_catNN (H := H') (σ := [some (.ref a), some (.ref hh), x2, x3, x4, some (.str LJ), some (.int (m : Nat)), some (.ref nl), some (.int dp), none, none, some (.int (i : Nat))]) (el_rep (k := if bb then 1 else 0) (ta := tLst (tCons (tC (.str ">")) tNil)) (tb := tCB (fun xs H Q => (∃ i, xs = [.int i] ∧ Q (.int i) H) ∨ ∃ k, xs = [.bl k] ∧ Q (.int (if k then 1 else 0)) H) (tCons (tAndV (tOp (rI0 fun i j => .bl (decide (j < i))) (tVar 11) (tC (.int 20))) (tOp rEq (tVar 8) (tC (.int 1)))) tNil)) (el_lst (ea_cons ev_c ea_nil) (by show 1 ≤ 100000; decide)) (ev_is (ev_cb (ea_cons (ev_andV (ev_op (ev_var rfl) ev_c rv_I0) fun _ => ev_op (ev_var rfl) ev_c rv_eqi) ea_nil) rc_intB) (by rw [← hbb]; cases bb <;> rfl)) (by cases bb <;> decide) (by show 1 ≤ 10; decide))
          (el_lst (ta := tCons (tOp (rIxL K) (tVar 7) (tVar 11)) (tCons (tC (.str "is")) (tCons (tC (.str "fine")) tNil))) (ea_cons (ev_op (ev_var rfl) (ev_var rfl) (rv_ixL (sq_of (b1 _ _ (e68 _ _ hN6))) (atI_nat (by rw [List.getElem?_map, hnm]; rfl)))) (ea_cons ev_c (ea_cons ev_c ea_nil))) (by show 3 ≤ 100000; decide)) (by rw [rep_str, List.length_map, List.length_replicate]; show (if bb then 1 else 0) + 3 ≤ 100000; cases bb <;> decide)
        rw [rep_str] at this
        rw [List.map_append]
        exact this
      refine EL H' (Ex.refl H') _ fun p9 H9 hp9 e9 h9 => ⟨acc, e9 _ _ b2, sz_lt (by omega), acc ++ [.ref p9], (b1.trans e9).mut hD, upd_same, by rw [List.length_append, b3]; rfl, fun v hv => ?_⟩
      have np : p9 ≠ Dl := fun e => by
        rw [e, b2] at hp9
        cases hp9
      rcases List.mem_append.mp hv with t | t
      · obtain ⟨b, ws, g1, g2, g3, g4, g5⟩ := b4 v t
        refine ⟨b, ws, g1, ?_, g3, g4, g5⟩
        show upd H9 Dl _ b = _
        rw [upd_ne g5]
        exact e9 _ _ g2
      · rw [List.mem_singleton.mp t]
        refine ⟨p9, List.replicate (if bb then 1 else 0) (">" : Str) ++ [nm2 i, "is", "fine"], rfl, ?_, ?_, ?_, np⟩
        · show upd H9 Dl _ p9 = _
          rw [upd_ne np]
          exact h9
        · rw [List.length_append, List.length_replicate]
          show (if bb then 1 else 0) + 3 ≤ 5
          cases bb <;> decide
        · exact (Sh.rep (by decide)).app ((Sh.one (by rw [nm2_len]; decide)).app ((Sh.one (by decide)).app (Sh.one (by decide))))
    obtain ⟨acc, b1, b2, b3, b4⟩ := pp
    refine ⟨q1, Dl, _, _, rfl, rfl, b1 _ _ h8, b2, sz_of (by show 1 + acc.length ≤ 100000; omega), fun rl hrl => ?_⟩
    have e9 : Ex H' (upd H' rl (.lst ([.ref p1] ++ acc))) := Ex.new hrl
    have h9 : upd H' rl (.lst ([.ref p1] ++ acc)) rl = some (.lst ([.ref p1] ++ acc)) := upd_same
    revert e9 h9
    generalize upd H' rl (.lst ([.ref p1] ++ acc)) = H9
    intro e9 h9
    have e69 := (e68.trans b1).trans e9
    have rows9 : ∀ v ∈ [V.ref p1] ++ acc, ∃ a ws, v = .ref a ∧ SL H9 a ws ∧ ws.length ≤ 5 ∧ Sh ws := fun v hv => by
      rcases List.mem_append.mp hv with t | t
      · rw [List.mem_singleton.mp t]
        exact ⟨p1, ["facts", "late"], rfl, e9 _ _ (b1 _ _ (e8 _ _ h7)), by decide, (Sh.one (by decide)).app (Sh.one (by decide))⟩
      · obtain ⟨b, ws, g1, g2, g3, g4, g5⟩ := b4 v t
        exact ⟨b, ws, g1, e9 _ _ g2, g3, g4⟩
    -- the text
    refine op_asg (op_k (op_cons (op_op ⟨_, rfl, op_lst (op_cons ?_)⟩)))
    refine el_lst (vs := [V.str "else", .str "free"]) (ea_cons ev_c (ea_cons ev_c ea_nil)) (by show 2 ≤ 100000; decide) H9 (Ex.refl H9) _ fun p10 H10 hp10 e10 h10 => ⟨by show 1 ≤ sizeLine; decide, fun q10 hq10 => ?_⟩
    have e11 : Ex H10 (upd H10 q10 (.lst [.ref p10])) := Ex.new hq10
    have h11 : upd H10 q10 (.lst [.ref p10]) q10 = some (.lst [.ref p10]) := upd_same
    revert e11 h11
    generalize upd H10 q10 (.lst [.ref p10]) = H11
    intro e11 h11
    have e911 := e10.trans e11
    refine ⟨rl, q10, _, _, rfl, rfl, e911 _ _ h9, h11, sz_of (by rw [List.length_append, List.length_singleton]; show 1 + acc.length + 1 ≤ 100000; omega), fun rl2 hrl2 => ?_⟩
    have e12 : Ex H11 (upd H11 rl2 (.lst ([.ref p1] ++ acc ++ [.ref p10]))) := Ex.new hrl2
    refine ⟨rl2, _, 65, 5, rfl, upd_same, by rw [List.length_append, List.length_append, List.length_singleton, List.length_singleton]; omega, fun v hv => ?_, by decide, fun t H13 e13 ht => ?_⟩
    · rcases List.mem_append.mp hv with z | z
      · obtain ⟨b, ws, g1, g2, g3, g4⟩ := rows9 v z
        exact ⟨b, ws, g1, (e911.trans e12) _ _ g2, g3, g4⟩
      · rw [List.mem_singleton.mp z]
        exact ⟨p10, ["else", "free"], rfl, e12 _ _ (e11 _ _ h10), by decide, (Sh.one (by decide)).app (Sh.one (by decide))⟩
    have D13 := D6.mono ((e69.trans (e911.trans e12)).trans e13)
    -- many facts
    refine op_asg (op_cb (op_cons (op_lcR (op_cons (op_opC (go_next D13 rfl (n := 4) ev_c (by decide) (by decide) fun r2 H14 y14 D14 r20 r21 => rI0_go (v := .int ((59 + r2).toNat : Nat)) (by show V.int (59 + r2) = _; congr 1; omega) (op_nil ?_)))))))
    obtain ⟨m2, hm2⟩ : ∃ m2 : Nat, m2 = (59 + r2).toNat := ⟨_, rfl⟩
    have hm262 : m2 ≤ 62 := by omega
    rw [← hm2]
    have EF := el_lcR1 (H := H14) (σ := [some (.ref a), some (.ref hh), x2, some (.ref rl), some (.str t), some (.str LJ), some (.int (m : Nat)), some (.ref nl), some (.int dp), none, none, none]) (j := 11) (vs := [11]) (n := (m2 : Nat)) (ta := fun _ H Q => Q [.int (m2 : Nat)] H) (t := tYes) (te := tOp (fun x y H Q => ∃ i j : Str, x = .str i ∧ y = .str j ∧ i.length + j.length ≤ sizeLine ∧ Q (.str (i ++ j)) H) (tOp (fun x y H Q => ∃ i j : Str, x = .str i ∧ y = .str j ∧ i.length + j.length ≤ sizeLine ∧ Q (.str (i ++ j)) H) (tC (.str "f")) (tOp rIxS (tVar 5) (tOp (rI CDiv fun i j => .int (i / j)) (tVar 11) (tC (.int 10))))) (tOp rIxS (tVar 5) (tOp (rI (fun _ j => 0 < j) fun i j => .int (i % j)) (tCB (fun xs H Q => (∃ i, xs = [.int i] ∧ Q (.int i) H) ∨ ∃ k, xs = [.bl k] ∧ Q (.int (if k then 1 else 0)) H) (tCons (tVar 11) tNil)) (tC (.int 10)))))
        (fun _ => true) (fun i => .str (nm3 i)) (fun H1 e1 Q q => q H1 (Ex.refl H1)) (by omega) (fun x => rfl) (fun i H9 e9 hi => et_yes) (fun i H9 e9 hi hf => by
          exact ev_op (ev_op ev_c (ev_op (ev_var rfl) (ev_is (ev_op (ev_var rfl) ev_c (rv_div (by decide) (by decide))) (by rw [d10])) (ixs (by omega))) (rv_cat (by rw [sg_len]; decide))) (ev_op (ev_var rfl) (ev_is (ev_op (ev_int (ev_var rfl)) ev_c (rv_mod (by decide))) (by rw [m10])) (ixs (by omega))) (rv_cat (by rw [str_len, sg_len, sg_len]; decide)))
    rw [given_all, show ((m2 : Nat) : Int).toNat = m2 from rfl] at EF
    refine EF H14 (Ex.refl H14) _ fun p15 H15 hp15 e15 h15 => ⟨p15, _, rfl, .inl ⟨sq_of h15, fun ft hft => ?_⟩⟩
    have hF : ST (upd H15 ft (.tup ((List.range m2).map fun i => V.str (nm3 i)))) ft ((List.range m2).map nm3) := by
      show upd H15 ft _ ft = _
      rw [upd_same, List.map_map]
      rfl
    revert hF
    generalize upd H15 ft (.tup ((List.range m2).map fun i => V.str (nm3 i))) = H16
    intro hF
    have s3 : ∀ z ∈ (List.range m2).map nm3, z.length ≤ 10 := fun z hz => by
      obtain ⟨k, _, rfl⟩ := List.mem_map.mp hz
      rw [nm3_len]
      decide
    have hj := join_le (a := " ") (ys := (List.range m2).map nm3) s3 (by decide)
    rw [List.length_map, List.length_range] at hj
    obtain ⟨wide, hwide⟩ : ∃ wide : Str, wide = (("facts " : Str) ++ Txt.join " " ((List.range m2).map nm3)) ++ "\nelse fine" := ⟨_, rfl⟩
    have l1 : ("facts " : Str).length = 6 := by decide +kernel
    have l2 : ("\nelse fine" : Str).length = 10 := by decide +kernel
    have hwl : wide.length ≤ 20000 := by
      rw [hwide, str_len, str_len, l1, l2]
      omega
    refine q_asg (v := .str wide) (ev_is (ev_op (ev_op ev_c (ev_jn (ev_var rfl) hF (by rw [List.length_map, List.length_range]; omega)) (rv_cat (by rw [l1]; omega))) ev_c (rv_cat (by rw [str_len, l1, l2]; omega))) (by rw [hwide])) fun H17 e17 => ?_
    -- both
    refine op_ret (op_k (op_cons (op_lst (op_cons (go_k (ea_cons (ev_var rfl) ea_nil) fun H18 e18 => ⟨t, rfl, ht, fun v1 H19 e19 hv1 => op_cons (go_k (ea_cons (ev_var rfl) ea_nil) fun H20 e20 => ⟨wide, rfl, hwl, fun v2 H21 e21 hv2 => ⟨by show 2 ≤ sizeLine; decide, fun la hla => ?_⟩⟩)⟩)))))
    have e22 : Ex H21 (upd H21 la (.lst [v1, v2])) := Ex.new hla
    have hla2 : upd H21 la (.lst [v1, v2]) la = some (.lst [v1, v2]) := upd_same
    have w1 := hv1.mono ((e20.trans e21).trans e22)
    have w2 := hv2.mono e22
    revert hla2 w1 w2
    generalize upd H21 la (.lst [v1, v2]) = H22
    intro hla2 w1 w2
    refine op_cons (op_lst (op_cons (go_k (ea_cons (ev_var rfl) ea_nil) fun H23 e23 => ⟨t, rfl, ht, fun v3 H24 e24 hv3 => op_cons (go_k (ea_cons (ev_var rfl) ea_nil) fun H25 e25 => ⟨wide, rfl, hwl, fun v4 H26 e26 hv4 => ⟨by show 2 ≤ sizeLine; decide, fun lb hlb => ?_⟩⟩)⟩)))
    have e2226 := ((e23.trans e24).trans e25).trans e26
    have e27 : Ex H26 (upd H26 lb (.lst [v3, v4])) := Ex.new hlb
    have e2227 := e2226.trans e27
    refine ⟨.ref la, .ref lb, rfl, alk_lst (n := 20) (e2227 _ _ hla2) upd_same (.cons (alk_res (w1.mono e2227) (hv3.mono ((e25.trans e26).trans e27))) (.cons (alk_res (w2.mono e2227) (hv4.mono e27)) .nil)) (by show 2 ≤ 1000; decide), fun H28 e28 => q H28⟩
end
end K56
set_option Elab.async false
set_option linter.all false
set_option maxRecDepth 100000
set_option maxHeartbeats 0
/-! K56, part Z: the end. -/
namespace K56
open PySem PySem.W PySem.Calls PyProof.Rows L2 He
theorem facts_end {P : Program} {w : World} {K : Frag} {h : Heap} {mg : PySem.Str → Option Value} {f : Addr} (X : K.In h) (G : h.Ns mainGlobals mg) (hfa : mg ("law" : PySem.Str) = some (.ref f)) (T : TX P K mg) :
    ∃ fd : FuncData, (∀ (s : Shared) (v : Value), BindsTo s fd ⟨[v], []⟩ [("_law_script", v)]) ∧ ∀ base : Heap, K.In base → base.Ns mainGlobals mg → FnOk P w K mg base CX0 26 f fd ["_law_script"] (spLaw K) := by
  obtain ⟨fd, F⟩ := T.d_law
  have e := hfa.symm.trans T.g_law
  cases e
  refine ⟨fd, fun s v => ?_, fun base _ _ => ok_law T F⟩
  obtain ⟨oc, od, kV, doc, pm, an, cdv, ct, osl, rfl, lk, hcd⟩ := F.ex
  exact .of_eq rfl
end K56
open PySem PySem.W PySem.Calls PyProof.Rows
theorem PySem.Challenge.cw_smallcourt_k56_whole_wrong_texts_located_holds : PySem.Challenge.rw_smallcourt_k56_whole_wrong_texts_located.Holds := by
  w_on; o_law
  refine HandSHeadRun.head_any (r := K56.R) (q := K56.qv) (H := K56.hk) (ob := K56.ob) (M := 8000) (loose := K56.names) (d := HandSHeadRun.topDef K56.R.prog 68) (kwd := []) K56.ob_eq
    (by kernel_rfl) (fun s => by kernel_rfl) K56.run (by kernel_rfl) (by kernel_rfl) (by kernel_rfl) (by rfl) (by first | assumption | decide +kernel) (by decide +kernel) ⟨rfl, rfl, rfl, rfl, rfl, by decide +kernel⟩ ?hw ?hc
  case hw => w_witness2
  case hc =>
    refine L2.walk_ofE (l := PySem.Challenge.rw_smallcourt_k56_whole_wrong_texts_located) (n := 63) (k := 26) (x := "_law_script") (CX := L2.CX0) rfl (by decide) (by kernel_rfl) ⟨rfl, by decide, by decide⟩ ?F (fun _ _ _ _ z => z)
    intro w mg fa h Y G hmg0
    obtain ⟨K, KX, c⟩ := Y
    have hmg : mg ("law" : PySem.Str) = some (.ref fa) := by
      have e : (HandSHeadRun.topDef K56.R.prog 68).name = ("law" : PySem.Str) := by kernel_rfl
      rw [← e]
      exact hmg0
    have T := K56.tx_of (P := (PySem.Challenge.rw_smallcourt_k56_whole_wrong_texts_located).prog) KX G (by decide +kernel) c
    obtain ⟨fd, hb, hF⟩ := K56.facts_end (w := w) KX G hmg T
    exact ⟨K, fd, K56.spLaw K, KX, hb, fun H a ns hl _ hS => ⟨a, ns, rfl, hS, hl, fun _ => rfl⟩, hF⟩
