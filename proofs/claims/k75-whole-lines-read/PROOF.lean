import PyProof.Rows.All
import Wide.All
import OpenK.AllK
import Wide.FinOn
import PyProof.EqAt
import PyProof.EqKinds
import PyProof.TupleCall
import KE.KExcSuper
import HandS.Base
import HandS.Call
import HandS.List
import HandS.Ends
import HandS.Exc
import HandS.ExcInit
import HandS.ExcCtx
import HandS.HotCalls
import HandS.RaiseFrom
import HandS.Words
import HandS.SuiteRaise
import KE.KExcIs
import HandS.ExcField
import HandS.ExcIs
import KE.GoesComp
import KE.GoesRaise
import HandS.Comp
import PyProof.RulesMatch
import HandS.Defaults
import HandS.HeadHook4
import HandS.Iter
import HandS.Walk
import HandS.Text
import HandS.ExcOwn
import HandS.WordsExc
import HandS.IsInst
import HandS.TupAny
import HandS.Zip
import KE.IntTextLaws
import HandS.Star
import HandS.Dict
import HandS.More
import HandS.Set
import HandS.SetFor
import HandS.Strs
import KE.Datum
import PyProof.EnumMake
import PyProof.Draws
import KE.GoesMore
import HandS.Style
import PyProof.ReprLen
import PyProof.ListStr
import HandS.NoneIn
import KE.SortData
import HandS.Replace
import HandS.ReplaceLit
import PyProof.ToksMono
import HandS.Codes
import HandS.Lambda
import HandS.Deep
import PyProof.FitsReplace
import HandS.EndBits
import HandS.EndTab
import KE.KNestM
import KE.KStateDown
import HandS.Head0
import HandS.Head1
import HandS.Head2
import HandS.HeadEnd
import HandS.HeadHook1
import HandS.HeadHook2
import HandS.HeadWalk
import PySem.Challenge.RW_firstletter_k75_whole_lines_read
set_option Elab.async false
set_option linter.all false
set_option maxRecDepth 100000
set_option maxHeartbeats 0
-- KX1
/-! an own error with two fields whose __init__ says super().__init__(a, b) -/
namespace Fl
open PySem
abbrev pw : Program := PySem.Challenge.pw_firstletter_k75_whole_lines_read
def topS (i : Nat) : Stmt := pw.main.body.getD i (.Pass ⟨0, 0, 0, 0⟩)
abbrev sIT : Stmt := L2.inClass (topS 11) 0
end Fl
namespace Fx
open PySem PySem.W PySem.Calls PyProof.Rows PySem.HandSPX
section
/-- what the written part says of the class at C: its __init__ fI closes over the cell cc; cda its code -/
structure ItT (prog : Program) (K : Frag) (C fI cc cda : Addr) (n1 n2 : Str) (params : Arguments) (body : List Stmt) (scope : Scope) (qual : Str) : Prop where
  cls : ∃ nm q N bs bm sn sub ab col dd k0 k1 k2 k3 k5, K.lookup C = some (excClassObj nm q C N bs bm true sn sub ab col dd k0 k1 k2 k3 k5 "ValueError.__new__") ∧ refsVE bm = true
  sa : findIn K (.ref C) "__setattr__" = some (some (.builtin "object.__setattr__"))
  no1 : findIn K (.ref C) n1 = some none
  no2 : findIn K (.ref C) n2 = some none
  iC : findIn K (.ref C) "__init__" = some (some (.ref fI))
  tI : typeIn K (.ref fI) = some (.type "function")
  kC : keepIn K (.ref C) = true
  exC : subIn K (.ref C) (.type "BaseException") = some true
  veC : subIn K (.ref C) (.type "ValueError") = some true
  tyC : typeIn K (.ref C) = some (.type "type")
  mrC : mroIn K C (.ref C) = some true
  fn : ∃ (oc : Value) (od : Option Addr) (doc pm kV : Value) (an : Option Addr) (ct : Value) (osl : Array (Option Value)),
    K.lookup fI = some ⟨oc, od, .func (ksFn "__init__" qual params body scope .none kV doc pm an (.ref cda) ct cc), osl⟩ ∧ codeIn K (.ref cda) qual = true
  code : ∃ (oc : Value) (od : Option Addr) (vs : Array Value) (osl : Array (Option Value)) (file : Str) (tf : Tok), K.lookup cda = some ⟨oc, od, .fields vs, osl⟩ ∧ vs[2]? = some (.str file tf) ∧ ((prog.main.file : Str) == file) = true
  cell : ∃ (oc : Value) (od : Option Addr) (osl : Array (Option Value)), K.lookup cc = some ⟨oc, od, .cell (some (.ref C)), osl⟩
  opq : nsIn K cStatics "thirdparty.any" = some none
  nsup : nsIn K mainGlobals "super" = some none
  sup : ks_superIn K C C "__init__" = some (some (.builtin "ValueError.__init__"))
/-- what __init__ leaves of a fresh error at x -/
structure InitEnd2 (h h' : Heap) (x C dx t1 : Addr) (n1 n2 : Str) (v1 v2 : Value) : Prop where
  keep : ∀ b o, b ≠ x → h.get? b = some o → h'.get? b = some o
  obj : h'.get? x = some { cls := .ref C, dict := some dx, data := .fields #[.ref t1, .none, .none, .none, .bool false, .none] }
  dbig : h.objs.size ≤ dx
  dne : dx ≠ x
  ns : h'.Ns1 dx (fun y => if y = n2 then some v2 else if y = n1 then some v1 else none)
theorem ldL {M : Model} {A : Around} {E : Value → Shared → Prop} {s : Shared} {env : Env} {m : Str → Option Value} {x : Str} {pos : Pos} {v : Value} {Q : Value → Shared → Prop} (hn : s.heap.Ns env.locals m) (hv : m x = some v) (h : Q v s)
    (hk : env.scope.kind = .function := by rfl) (hl : env.kindOf x = some .local := by rfl) (hd : (x == ("__debug__" : Str)) = false := by decide) : wpAny M A (eval (.Name x pos) env) Q E s := wpAny_Name (wpAny_loadName_local hk hl hn hv h) hd
end
section
variable {prog : Program} {w : World} {A : Around} {E : Value → Shared → Prop} {s : Shared} {K : Frag}
/-- super(), in a method of the class at D whose cell is cc, self at x -/
theorem super_node {mg mb m : Str → Option Value} {L : Addr} {body : List Stmt} {q : Str} {scope : Scope} {p0 p1 : Pos} {attr : Str} {whole : Sem Value} {fd : FuncData} {ar : Arg} {vs : Array Value} {file : Str} {tf : Tok} {f cda cc x D C : Addr} {ox : Obj} {odx : Option Obj}
    {oc ccl cl : Value} {od cdd cld : Option Addr} {osl ccs csl : Array (Option Value)} {cdD : ClassData} {Q : Value → Shared → Prop}
    (X : K.In s.heap) (hns : s.heap.Ns L m) (hg : s.heap.Ns mainGlobals mg) (hb : s.heap.Ns builtinsNs mb) (hbb : ∀ x : Str, x ≠ "__name__" → mb x = bootBuiltins x)
    (hf : K.lookup f = some ⟨oc, od, .func fd, osl⟩) (hp : (fd.params.posonlyargs ++ fd.params.args).head? = some ar) (hv : m ar.arg = some (.ref x)) (I : InstAt s.heap x ox C odx)
    (hcode : K.lookup cda = some ⟨ccl, cdd, .fields vs, ccs⟩) (hvs : vs[2]? = some (.str file tf)) (hfile : ((prog.main.file : Str) == file) = true)
    (hcell : K.lookup cc = some ⟨cl, cld, .cell (some (.ref D)), csl⟩) (hD : clsIn K D = some cdD) (hsub : mroIn K C (.ref D) = some true) (hsuper : nsIn K mainGlobals "super" = some none)
    (hat : (attr == ("__class__" : Str)) = false) (hks : scope.names.lookup ("super" : Str) = some .globalImplicit) (hkc : scope.names.lookup ("__class__" : Str) = some .free) (hka : scope.names.lookup ar.arg = some .local) (hk : scope.kind = .function)
    (htop : (prog.main.scope.names.lookup ("super" : Str)).isSome = false) (hboot : bootBuiltins "super" = some (.type "super"))
    (h : ∀ h', h'.get? s.heap.objs.size = some (ks_superObj D x C) → (∀ b o, s.heap.get? b = some o → h'.get? b = some o) → Q (.ref s.heap.objs.size) { s with heap := h' }) :
    _root_.PySem.wpAt (model prog w) A (.func body (ksEnv q scope L f (.ref cda) cc)) (attributeBase (.Call (.Name "super" p0) [] [] p1) attr (ksEnv q scope L f (.ref cda) cc) whole) Q E s := by
  obtain ⟨hh, g, d, t, os⟩ := s
  obtain ⟨oD, hD1, hD2⟩ : ∃ oD, hh.get? D = some oD ∧ oD.data = .cls cdD := by
    unfold clsIn at hD
    split at hD
    · rename_i c d cd' sl ho
      cases hD
      exact ⟨_, X _ _ ho, rfl⟩
    · cases hD
  refine ks_wpAt_super_base (env := ksEnv q scope L f (.ref cda) cc) hks hkc hat rfl (X _ _ hf) rfl hp rfl (X _ _ hcode) rfl hvs hfile htop ?_
  refine ks_loadName_global hk hks (loadGlobal_builtin (env := ksEnv q scope L f (.ref cda) cc) hg (mg_none_of X hg hsuper) hb ((hbb _ (by decide +kernel)).trans hboot) ⟨rfl, ?_⟩)
  refine wpAny_loadName_free hk hkc rfl ⟨_, X _ _ hcell, rfl⟩ ?_
  refine wpAny_loadName_local hk hka hns hv ?_
  refine ks_wpAny_isType_cls hD1 hD2 ⟨rfl, ?_⟩
  refine ks_wpAny_call_super hD1 hD2 I.at_ I.cls (fun c e => ?_) (looks_mroIn X hsub) (fun h' e k => h h' e k)
  have := I.no
  unfold notCls at this
  rw [e] at this
  exact Bool.noConfusion this
end
section
variable {prog : Program} {w : World} {A : Around} {E : Value → Shared → Prop} {h : Heap} {g : Array GenState} {d : Drawn} {t : Nat} {os : OsState}
variable {nm q : Str} {C N : Addr} {bs bm : List Value} {hdct : Bool} {sn : List Str} {sub : List Value} {ab : Bool} {col : Option Bool} {dd : Option Addr} {k0 k1 k2 k3 k5 : Option Value}
/-- ValueError.__init__ bound to e, called -/
theorem call_mw {u e t0 : Addr} {rest : List Value} {Q : Value → Shared → Prop}
    (hC : h.get? C = some (excClassObj nm q C N bs bm hdct sn sub ab col dd k0 k1 k2 k3 k5 "ValueError.__new__")) (he : h.get? e = some (HandSPX.excO C t0)) (hu : h.get? u = some (kxs_mw "ValueError.__init__" e)) (hrest : rest.length ≤ sizeLine)
    (hq : ∀ h' t1, (∀ b o, b ≠ e → h.get? b = some o → h'.get? b = some o) → h'.get? e = some (HandSPX.excO C t1) → Q .none ⟨h', g, d, t, os⟩) :
    wpAny (model prog w) A (call (.ref u) rest) Q E ⟨h, g, d, t, os⟩ := by
  refine wpAny_call (codeAny_of_tree ?_)
  show wpAny _ A.in1 (callAny (.ref u) ⟨rest, []⟩) _ _ _
  simp only [callAny]
  refine wpAny_bind (wpAny_load hu ?_)
  simp only [kxs_mw, show (Value.type "method-wrapper" == Value.type "method" || Value.type "method-wrapper" == Value.type "builtin_function_or_method" || Value.type "method-wrapper" == Value.type "method-wrapper") = true by decide, if_true]
  refine KFB.if_so (by decide) ?_
  refine wpAny_bind (check_bound_init F.excBase_ValueError.toExcCallFacts hC he rfl ?_)
  refine wpAny_bind (wpAny_pure (wpAny_pure ?_))
  refine ⟨plainId_quiet F.excBase_ValueError.init.plain _, codeAny_builtin F.excBase_ValueError.initEntry ?_⟩
  exact exc_init_tree (cls := .ref C) (t0 := t0) (dv := none) (c2 := .none) (c3 := .none) (b4 := .bool false) he hrest fun h' k' e' _ => hq h' _ k' e'
end
section
variable {prog : Program} {w : World} {A : Around} {E : Value → Shared → Prop} {R : Result → Shared → Prop} {s : Shared} {K : Frag}
open Fl L2 in
theorem it_init {mg mb : Str → Option Value} {C fI cc cda : Addr} {qual : Str}
    (T : ItT prog K C fI cc cda "line" "field" (defArgs sIT) (defBody sIT) (defScope sIT) qual) {x t0 : Addr} {v1 v2 : Value} (X : K.In s.heap)
    (hg : s.heap.Ns mainGlobals mg) (hb : s.heap.Ns builtinsNs mb) (hbb : ∀ x : Str, x ≠ "__name__" → mb x = bootBuiltins x) (hlim : s.heap.NoLimit) (htop : (prog.main.scope.names.lookup ("super" : Str)).isSome = false)
    (hx : s.heap.get? x = some (excO C t0)) (hnx : K.lookup x = none) (hroom : A.depth < recursionLimit)
    (hq : ∀ h' tk dx t1, InitEnd2 s.heap h' x C dx t1 "line" "field" v1 v2 → R (.ok (.ret .none)) { s with heap := h', toks := tk }) :
    codeAny (model prog w) A (.call (.ref fI) ⟨[.ref x, v1, v2], []⟩) R s := by
  obtain ⟨oc, od, doc, pm, kV, an, ct, osl, ho, hcd⟩ := T.fn
  obtain ⟨nm, qn, N, bs, bm, sn, sub, ab, col, dd, k0, k1, k2, k3, k5, hC, hbm⟩ := T.cls
  obtain ⟨occ, odd, vs, oss, file, tf, hcode, hvs, hfile⟩ := T.code
  obtain ⟨cl0, cd0, cs0, hcell⟩ := T.cell
  have hcl : clsIn K C = some { name := nm, bases := bs, mro := .ref C :: bm, ns := N, qualname := qn, hasDict := true, slotNames := sn, subclasses := sub, abstract := ab, collection := col, hasDel := false } := by unfold clsIn; rw [hC] <;> rfl
  refine ks_codeAny_call_defAt (fd := ksFn "__init__" qual (defArgs sIT) (defBody sIT) (defScope sIT) .none kV doc pm an (.ref cda) ct cc) (binds := [("self", .ref x), ("line", v1), ("field", v2)])
    hroom (X _ _ ho) rfl hlim (codeRec_of X hcd) rfl (BindsTo.of_eq (by first | rfl | with_unfolding_all rfl)) (by show ∀ x ∈ (defScope sIT).names, x.2 ≠ NameKind.cell; decide +kernel) (fun y hy => ?hl) (fun h₁ hns k₁ => ?_) rfl rfl rfl
  case hl =>
    simp only [List.mem_cons, List.not_mem_nil, or_false] at hy
    rcases hy with rfl | rfl | rfl <;> rfl
  have hxL : s.heap.objs.size ≠ x := Nat.ne_of_gt (Heap.lt_size hx)
  have X₁ : K.In h₁ := X.keeps k₁
  have hx₁ := k₁ _ _ hx
  have hsz : s.heap.objs.size < h₁.objs.size := hns.lt
  refine ks_wpAt_execs_cons (ks_wpAt_Expr_any (ks_wpAt_MethodCall ?_))
  refine super_node (fd := ksFn "__init__" qual (defArgs sIT) (defBody sIT) (defScope sIT) .none kV doc pm an (.ref cda) ct cc)  (ox := excO C t0) (odx := none)
    X₁ hns (hg.keeps k₁) (hb.keeps k₁) hbb ho rfl rfl ⟨hx₁, rfl, rfl, trivial⟩ hcode hvs hfile hcell hcl T.mrC T.nsup (by decide) rfl rfl rfl rfl htop (by decide +kernel) (fun h₂ e₂ k₂ => ?_)
  have X₂ : K.In h₂ := X₁.keeps k₂
  have hx₂ := k₂ _ _ hx₁
  have I₂ : InstAt h₂ x (excO C t0) C none := ⟨hx₂, rfl, rfl, trivial⟩
  have hsup := T.sup
  unfold ks_superIn at hsup
  rw [hcl] at hsup
  refine kxs_getMethod kxs_ValueError e₂ (looks_opaque X₂ T.opq) (l₀ := .ref C :: bm) ?_ rfl X₂ hsup (I₂.type.andThen (looks_subIn X₂ T.veC)) (ks_ne X₂ I₂ hcl) (by decide) ?_
  · exact fun A Q E s k q => wpAny_bind ((looks_clsIn X₂ hcl) A _ E s k (wpAny_pure q))
  have k₃ : ∀ b o, h₂.get? b = some o → (h₂.push (kxs_mw "ValueError.__init__" x)).get? b = some o := fun b o e => Heap.get?_push_of_some _ e
  have hu₃ : (h₂.push (kxs_mw "ValueError.__init__" x)).get? h₂.objs.size = some (kxs_mw "ValueError.__init__" x) := Heap.get?_push_at rfl rfl
  have hns₃ : (h₂.push (kxs_mw "ValueError.__init__" x)).Ns s.heap.objs.size (fun y => ([("self", .ref x), ("line", v1), ("field", v2)] : List (Str × Value)).reverse.lookup y) := (hns.keeps k₂).keeps k₃
  refine kxs_callWith (i := "ValueError.__init__") (x := x) (by rfl) ?_
  show wpAny _ _ (evalArgs (.ref h₂.objs.size) true ((false, eval (.Name "line" _) _) :: backTo _ (starEach [.Name "field" _] _)) []) _ _ _
  refine evalArgs_plain ?_
  refine Calls.spliced_cons (ldL hns₃ (by rfl) ?_)
  show wpAny _ _ (spliced (backTo _ (starEach [.Name "field" _] _))) _ _ _
  refine spliced_more (ldL hns₃ (by rfl) (spliced_none ⟨hu₃, ?_⟩))
  refine call_mw (X₂.keeps k₃ _ _ hC) (k₃ _ _ hx₂) hu₃ (by show 2 ≤ sizeLine; rw [sizeLine_eq]; decide) (fun h₄ t₁ k₄ e₄ => ?_)
  have X₄ : K.In h₄ := fun b o e => k₄ b o (fun z => by rw [z, hnx] at e; cases e) (X₂.keeps k₃ b o e)
  have kL : ∀ b o, b ≠ x → h₁.get? b = some o → h₄.get? b = some o := fun b o hb e => k₄ b o hb (k₃ b o (k₂ b o e))
  obtain ⟨oL, esL, epL, hoL, rL⟩ := hns
  have hns₄ : h₄.Ns s.heap.objs.size (fun y => ([("self", .ref x), ("line", v1), ("field", v2)] : List (Str × Value)).reverse.lookup y) := ⟨oL, esL, epL, kL _ _ hxL hoL, rL⟩
  have sz₄ : s.heap.objs.size < h₄.objs.size := hns₄.lt
  -- self.line = line
  refine wpAt_of_wpAny ?_
  refine wpAny_execs_cons (plainObj_wpAny_Assign_Attribute ?_)
  refine ldL (v := v1) hns₄ (by rfl) (ldL (v := .ref x) hns₄ (by rfl) ?_)
  refine set_plain X₄ (ox := excO C t₁) (od := none) ⟨e₄, rfl, rfl, trivial⟩ T.sa ?_
  refine exc_osa X₄ e₄ hcl (show refsVE (.ref C :: bm) = true from hbm) rfl T.no1 (fun h₅ tk₅ dx k₅ dn dne hx₅ hn₅ => ?_)
  have X₅ : K.In h₅ := fun b o e => k₅ b o (fun z => by rw [z, hnx] at e; cases e) (X₄ b o e)
  have hns₅ : h₅.Ns s.heap.objs.size (fun y => ([("self", .ref x), ("line", v1), ("field", v2)] : List (Str × Value)).reverse.lookup y) := ⟨oL, esL, epL, k₅ _ _ hxL (kL _ _ hxL hoL), rL⟩
  have ndL : dx ≠ s.heap.objs.size := Nat.ne_of_gt (Nat.lt_of_lt_of_le sz₄ dn)
  -- self.field = field
  refine wpAny_execs_cons (plainObj_wpAny_Assign_Attribute ?_)
  refine ldL (v := v2) hns₅ (by rfl) (ldL (v := .ref x) hns₅ (by rfl) ?_)
  obtain ⟨oD, esD, epD, hoD, rD⟩ := id hn₅
  refine set_plain X₅ (ox := { cls := .ref C, dict := some dx, data := .fields #[.ref t₁, .none, .none, .none, .bool false, .none] }) (od := some oD) ⟨hx₅, rfl, rfl, hoD⟩ T.sa ?_
  refine PySem.OEX.osa_old (nl := ["line"]) X₅ hx₅ hn₅ (fun y hy => ?_) (by decide) hcl (show refsVE (.ref C :: bm) = true from hbm) rfl T.no2 (fun h₆ tk₆ k₆ hn₆ => ?_)
  · by_cases e : y = "line"
    · rw [e]; exact List.mem_singleton.mpr rfl
    · exact absurd (if_neg e) hy
  refine wpAny_execs_nil (hq h₆ tk₆ dx t₁ ⟨fun b o hb e => ?_, ?_, ?_, dne, hn₆⟩)
  · have e4 := k₅ b o hb (kL b o hb (k₁ b o e))
    refine k₆ b o (fun z => ?_) e4
    rw [z] at e
    exact absurd (Nat.lt_of_lt_of_le (Heap.lt_size e) (Nat.le_trans (Nat.le_of_lt sz₄) dn)) (Nat.lt_irrefl _)
  · exact k₆ x _ (Ne.symm dne) hx₅
  · exact Nat.le_trans (Nat.le_of_lt sz₄) dn
/-- a made error -/
structure OwnMade2 (h h' : Heap) (e C d : Addr) (v1 v2 : Value) : Prop where
  keep : ∀ b o, h.get? b = some o → h'.get? b = some o
  new : h.objs.size ≤ e
  obj : ∃ t, h'.get? e = some { cls := .ref C, dict := some d, data := .fields #[.ref t, .none, .none, .none, .bool false, .none] }
  dbig : h.objs.size ≤ d
  dne : d ≠ e
  ns : h'.Ns1 d (fun y => if y = "field" then some v2 else if y = "line" then some v1 else none)
open Fl L2 in
theorem it_made {mg mb : Str → Option Value} {C fI cc cda : Addr} {qual : Str}
    (T : ItT prog K C fI cc cda "line" "field" (defArgs sIT) (defBody sIT) (defScope sIT) qual) {v1 v2 : Value} (X : K.In s.heap)
    (hg : s.heap.Ns mainGlobals mg) (hb : s.heap.Ns builtinsNs mb) (hbb : ∀ x : Str, x ≠ "__name__" → mb x = bootBuiltins x) (hlim : s.heap.NoLimit) (htop : (prog.main.scope.names.lookup ("super" : Str)).isSome = false)
    (hroom : A.depth + 1 < recursionLimit)
    (hq : ∀ h' tk e d, OwnMade2 s.heap h' e C d v1 v2 → R (.ok (.ret (.ref e))) { s with heap := h', toks := tk }) :
    codeAny (model prog w) A (.call (.ref C) ⟨[v1, v2], []⟩) R s := by
  obtain ⟨nm, q, N, bs, bm, sn, sub, ab, col, dd, k0, k1, k2, k3, k5, hC, hbm⟩ := T.cls
  obtain ⟨hp, g, dr, tk, os⟩ := s
  have k : ∀ b o, hp.get? b = some o → ((hp.push (kdv_tup [v1, v2])).push (excO C hp.objs.size)).get? b = some o := fun b o e => Heap.get?_push_of_some _ (Heap.get?_push_of_some _ e)
  have hget : ((hp.push (kdv_tup [v1, v2])).push (excO C hp.objs.size)).get? (hp.objs.size + 1) = some (excO C hp.objs.size) := by heap_get
  have hnx : K.lookup (hp.objs.size + 1) = none := by
    cases e : K.lookup (hp.objs.size + 1) with
    | none => rfl
    | some o =>
      have z : hp.get? (hp.objs.size + 1) = some o := X _ _ e
      exact absurd (Nat.lt_of_succ_lt (Heap.lt_size z)) (Nat.lt_irrefl _)
  refine call_own F.excBase_ValueError (fun X => refsVE_contains X bm hbm) (X _ _ hC) (looks_findIn X T.iC) (fun self => bind_fn X self T.tI) (by show 2 ≤ sizeLine; rw [sizeLine_eq]; decide) ?_
  refine it_init (s := ⟨(hp.push (kdv_tup [v1, v2])).push (excO C hp.objs.size), g, dr, tk, os⟩) T (X.keeps k) (hg.keeps k) (hb.keeps k) hbb (hlim.keeps k) htop hget hnx ?_ fun h' tk' dx t1 ⟨k', hx, dn, dne, hns⟩ => ?_
  · show A.depth + 1 < recursionLimit
    exact hroom
  · have old : ∀ b o, hp.get? b = some o → h'.get? b = some o := fun b o e => k' b o (Nat.ne_of_lt (Nat.lt_succ_of_lt (Heap.lt_size e))) (k b o e)
    have z : hp.objs.size + 1 + 1 ≤ dx := by
      first
        | (simpa only [Heap.size_push] using dn)
        | exact dn
        | (have q := dn; rw [Heap.size_push, Heap.size_push] at q; exact q)
    exact ⟨rfl, hq h' tk' (hp.objs.size + 1) dx ⟨old, Nat.le_succ _, ⟨_, hx⟩, Nat.le_trans (Nat.le_trans (Nat.le_succ _) (Nat.le_succ _)) z, dne, hns⟩⟩
end
end Fx
namespace Fl
open PySem PySem.Spec PyProof.Rows L2
/-- the fields of an InvalidText, newest first -/
def itF (v1 v2 : V) : List (Str × V) := [("field", v2), ("line", v1)]
theorem itF_line (v1 v2 : V) : (itF v1 v2).lookup ("line" : Str) = some v1 := by
  unfold itF
  have : (("line" : Str) == "field") = false := by decide +kernel
  simp [List.lookup, this]
theorem itF_field (v1 v2 : V) : (itF v1 v2).lookup ("field" : Str) = some v2 := by
  unfold itF
  simp [List.lookup]
theorem itF_rel {v1 v2 : V} {u1 u2 : Value} (r1 : RelV v1 u1) (r2 : RelV v2 u2) (f : Str) : RelO ((itF v1 v2).lookup f) (if f = "field" then some u2 else if f = "line" then some u1 else none) := by
  unfold itF
  by_cases h : f = "field"
  · rw [if_pos h]; subst h
    simp only [List.lookup, beq_self_eq_true]
    exact r2
  · rw [if_neg h]
    have e : (f == ("field" : Str)) = false := by simpa using h
    by_cases h2 : f = "line"
    · rw [if_pos h2]; subst h2
      simp only [List.lookup, e, beq_self_eq_true]
      exact r1
    · rw [if_neg h2]
      have e2 : (f == ("line" : Str)) = false := by simpa using h2
      simp only [List.lookup, e, e2]
      trivial
section
variable {X : Cx} {C fI cc cda : Addr} {qual : Str}
/-- InvalidText(a, b) -/
def tMkIT (C : Addr) (ta : TA) : L2.St → Hp → XK → Prop := fun σ H Q => ta σ H fun vs H1 => ∃ v1 v2, vs = [v1, v2] ∧ ∀ d, H1 d = none → Q (.ref C) (some d) (upd H1 d (.xd (itF v1 v2)))
theorem pmk5_it {x : Str} {a b : Expr} {ta : TA} {p pos : Pos} (T : Fx.ItT X.prog X.K C fI cc cda "line" "field" (defArgs sIT) (defBody sIT) (defScope sIT) qual) (htop : (X.prog.main.scope.names.lookup ("super" : Str)).isSome = false)
    (hr : X.A.depth + 1 < recursionLimit) (hg : Gl X x) (hm : X.mg x = some (.ref C)) (ha : PA X [a, b] ta) (hdb : (x == ("__debug__" : Str)) = false := by decide)
    (he : starEach (a :: [b]) X.env = (false, eval a X.env) :: starEach [b] X.env := by rfl) (hpl : (backTo pos (starEach [b] X.env)).any (·.1) = false := by rfl) :
    L2H.PMk5 X (.Call (.Name x p) [a, b] [] pos) (tMkIT C ta) := by
  intro pins s σ H Q I h
  refine wpAny_Call_Name_kw (ld_glob I hg hm ?_ hdb)
  refine PySem.W.callWith_K (h₀ := X.base) I.ok.mod.kin T.kC (thn (ha.run pos pins s σ H _ I h) fun us s1 hh => ?_) he hpl
  obtain ⟨vs, H1, I1, r1, v1, v2, ev, q1⟩ := hh
  subst ev
  refine ⟨I1.kIn, ?_⟩
  cases r1 with
  | cons rv rn =>
    cases rn with
    | cons rv2 rn2 =>
    cases rn2
    rename_i u1 u2
    have hlim := I1.nolimit
    obtain ⟨mb, hb, hbb⟩ := I1.mod.blt
    have hgl := I1.mod.glob.keeps I1.bk
    have hbl := hb.keeps I1.bk
    obtain ⟨hp, g, dr, tk, os⟩ := s1
    refine wpAny_call (Fx.it_made (s := ⟨hp, g, dr, tk, os⟩) T I1.kIn hgl hbl hbb hlim htop hr fun h' tk' e d M => ?_)
    obtain ⟨t, hoe⟩ := M.obj
    have hns := M.ns
    obtain ⟨G', g1, g2⟩ := restrict h' fun b => decide (b ≠ e)
    have gk : ∀ b, b ≠ e → G'.get? b = h'.get? b := fun b hb => g1 b (decide_eq_true hb)
    have ge : G'.get? e = none := g2 e (by simp)
    have old : ∀ b o, hp.get? b = some o → G'.get? b = some o := fun b o q => (gk b (Nat.ne_of_lt (Nat.lt_of_lt_of_le (Heap.lt_size q) M.new))).trans (M.keep b o q)
    have ob : ObjOk X.prog X.w (upd H1 d (.xd (itF v1 v2))) G' d (.xd (itF v1 v2)) :=
      ⟨_, hns.at (fun o q => (gk d M.dne).trans q), fun f => itF_rel rv rv2 f⟩
    have J : Inv X pins σ (upd H1 d (.xd (itF v1 v2))) ⟨G', g, dr, tk', os⟩ := I1.laid (t' := tk') old M.dbig ob
    refine ⟨⟨e, _, _, ⟨G', g, dr, tk', os⟩, _, .ref C, some d, rfl, J, fun b o q => ?_, ge, hoe, ⟨rfl, rfl, fun vs e => by cases e; rfl⟩, rfl, rfl, ?_, rfl, I1.bare, raises_own T.exC T.tyC, q1 d (I1.hok.fresh M.dbig)⟩, fun a' oe' vs' ea hg' hd' => ?_⟩
    · by_cases hb : b = e
      · have q' : G'.get? b = some o := q
        rw [hb, ge] at q'; cases q'
      · exact (gk b hb).symm.trans q
    · rw [upd_ne (Ne.symm M.dne)]
      exact I1.hok.fresh M.new
    · cases ea
      have hg2 : h'.get? e = some oe' := hg'
      rw [hoe] at hg2
      cases hg2
      cases hd'
      show (4 : Nat) < 6
      decide
/-- L2N's makings are L2's -/
theorem pmk_of {e : Expr} {t : L2.St → Hp → XK → Prop} (h : L2N.PMk X e t) : L2.PMk X e t := fun pins s σ H Q I q =>
  thn (h pins s σ H Q I q) fun u s' ⟨a, oe, vs, sI, H', cls, d, e1, J, k, hne, ha, hz, hd, h1, na, os, ag, r, q⟩ => ⟨a, oe, vs, sI, H', cls, d, e1, J, k, hne, ha, hz.zc, hd, h1, na, os, ag, r, q⟩
end
end Fl

-- KX2
/-! try: .. except X as n: a suite that raises -/
namespace Fl
open PySem PySem.Spec PyProof.Rows L2 L2H
section
variable {X : Cx} {pins : List (Addr × Obj)} {σ : L2.St} {H : Hp} {s : Shared}
/-- the frame's name n is gone, all else is kept: the state at the heap h' -/
theorem gone_at {i : Nat} {n : Str} {m : Str → Option Value} {v : Option Value} {h' : Heap} {t' : Nat} (I : Inv X pins σ H s) (hN : X.N.Nodup) (hi : X.N[i]? = some n) (hl : X.env.kindOf n = some .local) (hn : s.heap.Ns X.env.locals m)
    (hlk : ∀ (j : Nat) (y : Str) (v' : V), X.N[j]? = some y → σ[j]? = some (some v') → Vis X.env.scope y → ∃ u, RelV v' u ∧ Look X.env s.heap m y u)
    (hn' : h'.Ns X.env.locals (fun x => if x = n then v else m x)) (hs : Heap.SameBut X.env.locals s.heap h') : Inv X pins (σ.set i none) H { s with heap := h', toks := t' } := by
  obtain ⟨oL, _, _, hoL, _⟩ := id hn
  have neL : ∀ b o, X.s_0.heap.get? b = some o → b ≠ X.env.locals := fun b o e => Nat.ne_of_lt (Nat.lt_of_lt_of_le (Heap.lt_size e) I.ok.above)
  refine ⟨I.ok, I.os, I.bare, ⟨fun b o e n hb hx => ?_, fun b o e n hb hx => ?_, I.base.free, fun b o e hx => ?_, I.base.tups, I.base.frzs, I.base.tbls⟩, ⟨_, hn', fun j y v' e1 e2 e3 => ?_⟩, fun y c e => ?_, I.free, I.freeC, fun p hp => ?_, fun b ob e => ?_, by simpa using I.len⟩
  · exact (hs.2 b (neL b o e)).trans (I.base.keep b o e n hb hx)
  · obtain ⟨sl, e1⟩ := I.base.slot b o e n hb hx
    exact ⟨sl, (hs.2 b (neL b o e)).trans e1⟩
  · obtain ⟨o', e1⟩ := I.base.there b o e hx
    exact ⟨o', (hs.2 b (neL b o e)).trans e1⟩
  · by_cases hj : j = i
    · subst hj
      by_cases hlt : j < σ.length
      · rw [List.getElem?_set_self hlt] at e2; cases e2
      · rw [List.getElem?_eq_none (by simpa using hlt)] at e2; cases e2
    · rw [List.getElem?_set_ne (Ne.symm hj)] at e2
      obtain ⟨u', r', q⟩ := hlk j y v' e1 e2 e3
      refine ⟨u', r', ?_⟩
      rcases q with ⟨k, e⟩ | ⟨k, c, e, z⟩
      · have ny : y ≠ n := fun e => hj (nodup_ix hN e1 (e ▸ hi))
        exact .inl ⟨k, (if_neg ny).trans e⟩
      · exact .inr ⟨k, c, e, z.sameBut hs (I.cne y c e)⟩
  · obtain ⟨w', z⟩ := I.cell y c e
    exact ⟨w', z.sameBut hs (I.cne y c e)⟩
  · obtain ⟨e, n, ne, nf, d⟩ := I.pin p hp
    exact ⟨(hs.2 p.1 ne).trans e, n, ne, nf, d⟩
  · refine (I.hok b ob e).stay (fun c w' hc q => (hs.2 c ?_).trans q) (fun _ q => q) fun _ _ q => q
    intro z
    subst z
    rcases hc with hc | hc
    · rw [← hc, I.free] at e; cases e
    · rw [I.free] at hc; cases hc
end
/-- frames: one of them changed, still no record -/
theorem frames_one {base h h' : Heap} {L : Addr} {o' : Obj} (hs : ∀ b, b ≠ L → h'.get? b = h.get? b) (ho : h'.get? L = some o') (hd : ∀ vs, o'.data ≠ .fields vs) : ∀ {l : List Env}, h.FunFrames base l → h'.FunFrames base l
  | [], _ => trivial
  | env :: l, ⟨hk, ⟨M, o, hf, hn, e, d⟩, hr⟩ => by
    refine ⟨hk, ?_, frames_one hs ho hd hr⟩
    by_cases z : M = L
    · exact ⟨M, o', hf, hn, by rw [z]; exact ho, hd⟩
    · exact ⟨M, o, hf, hn, (hs M z).trans e, d⟩
section
variable {X : Cx}
/-- what is wished of an exception that leaves the suite of «except .. as n» -/
def chE (X : Cx) (a : Addr) (n : Str) (pos' : Pos) : Value → Shared → Prop := fun x s₃ =>
  wpAny (model X.prog X.w) (X.A.mark (some (.ref a))) (noteFrame x X.env) (fun _ s₃' =>
    wpAny (model X.prog X.w) (X.A.mark (some (.ref a))) (do bindName X.env n .none; unbindBehindTheSuite X.env n pos')
      (fun _ s₄ => wpAny (model X.prog X.w) (X.A.mark (some (.ref a))) (passOn "try.except-as" x X.env : Sem Flow) (fun _ _ => False) (notedBy (model X.prog X.w) (X.A.mark (some (.ref a))) X.env (cameBackBy (model X.prog X.w) X.A X.env X.xe)) s₄)
      (fun y s₄ => wpAny (model X.prog X.w) (X.A.mark (some (.ref a))) (setFlight x none) (fun _ s₅ => (notedBy (model X.prog X.w) (X.A.mark (some (.ref a))) X.env (cameBackBy (model X.prog X.w) X.A X.env X.xe)) y s₅)
        (notedBy (model X.prog X.w) (X.A.mark (some (.ref a))) X.env (cameBackBy (model X.prog X.w) X.A X.env X.xe)) s₄) s₃')
    (notedBy (model X.prog X.w) (X.A.mark (some (.ref a))) X.env (cameBackBy (model X.prog X.w) X.A X.env X.xe)) s₃
abbrev suiteC (X : Cx) (a : Addr) (pn : List (Addr × Obj)) (xe : Value → Shared → Prop) : Cx := { suiteX X a pn with xe := xe }
theorem unsuiteC {pins pn' : List (Addr × Obj)} {σ : L2.St} {H : Hp} {s : Shared} {a : Addr} {q : Addr × Obj} {xe : Value → Shared → Prop} (I : Inv (suiteC X a (q :: (X.pn ++ pins)) xe) pn' σ H s) (ok : X.Ok) : Inv X pins σ H s :=
  unsuiteX (X := X) (a := a) (q := q) (pn' := pn') (Inv.wish (X := suiteC X a (q :: (X.pn ++ pins)) xe) I X.xe) ok
theorem takes_ch {pins : List (Addr × Obj)} {a : Addr} {oe : Obj} {i : Nat} {n : Str} {pos' : Pos} {Wout : WX} (ok : X.Ok) (hs : X.stack = X.env :: X.outer) (hf : X.env.frame = some X.env.locals) (hN : X.N.Nodup) (hi : X.N[i]? = some n) (hln : X.env.kindOf n = some .local)
    (hpa : ∀ hd : Option Value, PassesOwnAt (model X.prog X.w) (X.A.mark hd) X.A X.env X.xe) (tk : L2.Takes X Wout) :
    L2.Takes (suiteC X a ((a, oe) :: (X.pn ++ pins)) (chE X a n pos')) (fun cls d σ H => Wout cls d (σ.set i none) H) := by
  intro u2 s2 xx
  obtain ⟨a2, B2, sI2, pn2, σ2, H2, cls2, d2, rfl, I2, nb2, up2, sky2, na2, os2, ag2, w2⟩ := xx
  have I : Inv X pins σ2 H2 sI2 := unsuiteC I2 ok
  have hfr : (X.A.mark (some (.ref a))).frames = some (X.env :: X.outer) := by
    show X.A.frames = _
    rw [ok.frames, hs]
  have sky : Sky B2 (X.env :: X.outer) a2 (Zc cls2 d2) X.env.locals s2.heap := by rw [← hs]; exact sky2
  have nb : ∀ b o, sI2.heap.get? b = some o → b ∉ frs X.stack → B2.get? b = some o := nb2
  show wpAny (model X.prog X.w) (X.A.mark (some (.ref a))) (noteFrame (.ref a2) X.env) _ _ s2
  have key : ∀ h3, HandSPX.HeldZ B2 (X.env :: X.outer) a2 (Zc cls2 d2) X.env.locals h3 → s2.heap.UpToSlots h3 →
      wpAny (model X.prog X.w) (X.A.mark (some (.ref a))) (do bindName X.env n .none; unbindBehindTheSuite X.env n pos')
      (fun _ s₄ => wpAny (model X.prog X.w) (X.A.mark (some (.ref a))) (passOn "try.except-as" (.ref a2) X.env : Sem Flow) (fun _ _ => False) (notedBy (model X.prog X.w) (X.A.mark (some (.ref a))) X.env (cameBackBy (model X.prog X.w) X.A X.env X.xe)) s₄)
      (fun y s₄ => wpAny (model X.prog X.w) (X.A.mark (some (.ref a))) (setFlight (.ref a2) none) (fun _ s₅ => (notedBy (model X.prog X.w) (X.A.mark (some (.ref a))) X.env (cameBackBy (model X.prog X.w) X.A X.env X.xe)) y s₅)
        (notedBy (model X.prog X.w) (X.A.mark (some (.ref a))) X.env (cameBackBy (model X.prog X.w) X.A X.env X.xe)) s₄) { s2 with heap := h3 } := by
    intro h3 hh3 up3
    have J3 : Inv X pins σ2 H2 { s2 with heap := h3 } := I.landed nb hh3.1 (up2.trans up3) os2 ag2
    obtain ⟨m, hn0, hlk0⟩ := id I.loc
    have hn : h3.Ns X.env.locals m := (up2.trans up3).ns hn0
    have hcls : (X.env.scope.kind == .class || (X.env.scope.kind == .module && X.env.locals != X.env.globals)) = false := by rw [ok.kind]; rfl
    refine wpAny_nameGoes_keeps hln hn hcls fun h4 v hn4 hsb => ?_
    obtain ⟨o4, es4, ep4, ho4, hd4, _⟩ := id hn4
    have nof4 : ∀ vs, o4.data ≠ .fields vs := fun vs z => by rw [hd4] at z; cases z
    -- held behind the name's going
    have hh4 : HandSPX.HeldZ B2 (X.env :: X.outer) a2 (Zc cls2 d2) X.env.locals h4 := by
      obtain ⟨f1, f2, f3, oe2, vs2, T, oT, ts, he, hz, hd, h1, hnT, hTe, hT, hdT, h3'⟩ := hh3
      have notL : ∀ {b : Addr} {o : Obj} {vs : Array Value}, h3.get? b = some o → o.data = .fields vs → b ≠ X.env.locals := fun {b o vs} e dd z => by
        obtain ⟨oL, es, ep, e', d', _⟩ := hn
        rw [z] at e
        rw [show h3.get? X.env.locals = some oL from e'] at e
        cases e
        rw [d'] at dd
        cases dd
      have noB : B2.get? X.env.locals = none := by
        obtain ⟨hk, ⟨M, o, hf', hn', _⟩, _⟩ := f3
        rw [hf] at hf'
        cases hf'
        exact hn'
      refine ⟨fun b o e => ?_, f2, frames_one (fun b hb => hsb.2 b hb) ho4 nof4 f3, oe2, vs2, T, oT, ts, ?_, hz, hd, h1, hnT, hTe, ?_, hdT, h3'⟩
      · have hb : b ≠ X.env.locals := fun z => by rw [z, noB] at e; cases e
        exact (hsb.2 b hb).trans (f1 b o e)
      · exact (hsb.2 a2 (notL he hd)).trans he
      · exact (hsb.2 T (notL hT hdT)).trans hT
    obtain ⟨f1, f2, f3, oe2, vs2, T, oT, ts, he, hz, hd, h1, hr⟩ := id hh4
    -- the state without the exception, the name gone
    have hL : ∃ oI, sI2.heap.get? X.env.locals = some oI := by
      obtain ⟨_, ⟨o, _, _, e, _⟩, _⟩ := I.loc
      exact ⟨o, e⟩
    obtain ⟨oI, hoI⟩ := hL
    have hfree4 : o4.isFreed = false := by
      obtain ⟨oc, od, dt, osl⟩ := o4
      cases hd4
      rfl
    have hG : (sI2.heap.update X.env.locals fun _ => o4).get? X.env.locals = some o4 := Heap.get?_update_self _ hoI hfree4
    have hGo : ∀ b, b ≠ X.env.locals → (sI2.heap.update X.env.locals fun _ => o4).get? b = sI2.heap.get? b := fun b hb => Heap.get?_update_other _ _ (Ne.symm hb)
    have hnG : (sI2.heap.update X.env.locals fun _ => o4).Ns X.env.locals (fun x => if x = n then v else m x) := by
      obtain ⟨o, es, ep, e, r⟩ := hn4
      have e' : h4.get? X.env.locals = some o := e
      rw [ho4] at e'
      cases e'
      exact ⟨_, es, ep, hG, r⟩
    have hsG : Heap.SameBut X.env.locals sI2.heap (sI2.heap.update X.env.locals fun _ => o4) := Heap.SameBut.update _ _ _
    have I' : Inv X pins (σ2.set i none) H2 { sI2 with heap := sI2.heap.update X.env.locals fun _ => o4, toks := sI2.toks } := gone_at I hN hi hln hn0 hlk0 hnG hsG
    unfold PySem.passOn
    refine wpAny_bind (wpAny_field he hd h1 ?_)
    rw [if_neg (show ¬ ((Value.ref T == Value.none) = true) from by simp)]
    have fin : wpAny (model X.prog X.w) (X.A.mark (some (.ref a))) (setFlight (.ref a2) X.env.frame) (fun _ s4 => wpAny (model X.prog X.w) (X.A.mark (some (.ref a))) (throw (.ref a2) : Sem Flow) (fun _ _ => False)
        (notedBy (model X.prog X.w) (X.A.mark (some (.ref a))) X.env (cameBackBy (model X.prog X.w) X.A X.env X.xe)) s4) (notedBy (model X.prog X.w) (X.A.mark (some (.ref a))) X.env (cameBackBy (model X.prog X.w) X.A X.env X.xe))
        { s2 with heap := h4, toks := s2.toks + 1 } := by
      rw [hf]
      refine HandSPX.setFlight_onZ hh4 fun h5 hh5 up5 => wpAny_throw (hpa (some (.ref a)) _ _ (tk _ _ ?_))
      refine ⟨a2, B2, { sI2 with heap := sI2.heap.update X.env.locals fun _ => o4, toks := sI2.toks }, pins, σ2.set i none, H2, cls2, d2, rfl, I', fun b o e hb => ?_, fun b o e hnf => ?_, .inr (.inr (by rw [hs]; exact hh5)), na2, os2, ag2, w2⟩
      · have hbL : b ≠ X.env.locals := fun z => hb (by rw [z, hs]; exact List.mem_filterMap.mpr ⟨X.env, List.mem_cons_self, hf⟩)
        exact nb b o ((hGo b hbL).symm.trans e) hb
      · by_cases hbL : b = X.env.locals
        · have e' : (sI2.heap.update X.env.locals fun _ => o4).get? b = some o := e
          rw [hbL, hG] at e'
          cases e'
          exact up5 b _ (by rw [hbL]; exact ho4) hnf
        · obtain ⟨sl, e1⟩ := (up2.trans up3) b o ((hGo b hbL).symm.trans e) hnf
          obtain ⟨sl', e2⟩ := up5 b _ ((hsb.2 b hbL).trans e1) hnf
          exact ⟨sl', e2⟩
    first
      | exact wpAny_bind (wpAny_pure (wpAny_bind fin))
      | exact wpAny_bind fin
  rcases sky with ⟨hB, hn, hl, oe, vs, he, hz, hd, h1⟩ | fl | hh
  · exact HandSPX.look_newZ Zc.steady hfr hl hf he hB hn hd h1 hz key
  · exact HandSPX.looks_onZ Zc.steady hfr hf fl key
  · exact HandSPX.againZ hf hh.2.2.2 (key s2.heap hh (Heap.UpToSlots.refl _))
end
section
variable {X : Cx} {x n : Str} {c : Value} {i : Nat} {body suite : List Stmt} {b₀ : Stmt} {np pos pos' : Pos} {tb : WX → TS} {ts : Addr → Value → Option Addr → TS} {Wout : WX}
/-- try: body / except x as n: suite, the suite may raise; the body's exceptions have no context -/
theorem ps_try_asX (hs : X.stack = X.env :: X.outer) (hf : X.env.frame = some X.env.locals) (hN : X.N.Nodup) (hi : X.N[i]? = some n) (hln : X.env.kindOf n = some .local) (hc : Names X x c)
    (hpa : ∀ hd : Option Value, PassesOwnAt (model X.prog X.w) (X.A.mark hd) X.A X.env X.xe) (tk : L2.Takes X Wout)
    (hb : ∀ (W : WX) (pn : List (Addr × Obj)) (xe : Value → Shared → Prop), L2N.Takes (X.tr pn xe) W → PassesOwn (model X.prog X.w) X.A X.env xe → PSs (X.tr pn xe) body (tb W))
    (hsu : ∀ (a : Addr) (oe : Obj) (cls : Value) (d : Option Addr) (pn : List (Addr × Obj)) (xe : Value → Shared → Prop), L2N.Zn cls d oe → (∃ vs, oe.data = .fields vs) → L2.Takes (suiteC X a ((a, oe) :: pn) xe) (fun cls d σ H => Wout cls d (σ.set i none) H) →
      HotC (suiteC X a ((a, oe) :: pn) xe) → PSs (suiteC X a ((a, oe) :: pn) xe) (b₀ :: suite) (ts a cls d)) :
    PS X (.Try body [.ExceptHandler (some (.Name x np)) (some n) (b₀ :: suite) pos'] [] [] pos) (fun D σ H => tb (wAs X.K c i ts Wout D) D σ H) := by
  refine ⟨fun pins s σ H D I h => ?_⟩
  have ok := I.ok
  have hfr : X.A.frames = some (X.env :: X.outer) := by rw [ok.frames, hs]
  have hloc : Loc X.env.scope n := .inl hln
  refine wpAny_Try_except ?_
  refine wpAny_mono ((hb (wAs X.K c i ts Wout D) (X.pn ++ pins) (fun e s₁ => wpAny (model X.prog X.w) X.A (noteFrame e X.env) (fun _ s₂ => wpAny (model X.prog X.w) X.A (setFlight e none) (fun _ s₃ =>
    wpAny (model X.prog X.w) X.A (handleBy e X.env [.ExceptHandler (some (.Name x np)) (some n) (b₀ :: suite) pos']) (SP X pins D) X.xe s₃) X.xe s₂) X.xe s₁) (fun u s' xx => ?_) PassesOwn.looking).run [] s σ H D (I.toTry _) h) (fun f s1 hsp => ?_) (fun e s1 he => he)
  · -- the catch
    obtain ⟨a, B, sI, pins', σ', H', cls, d, rfl, J', nb, up, sky, na, os, ag, b, hb1, hyes, hno⟩ := xx
    have J : Inv X pins σ' H' sI := J'.ofTry ok
    have sky' : Sky B (X.env :: X.outer) a (L2N.Zn cls d) X.env.locals s'.heap := by rw [← hs]; exact sky
    show wpAny (model X.prog X.w) X.A (noteFrame (.ref a) X.env) _ _ _
    refine L2N.Sky.land L2N.Zn.steady hfr hf sky' fun h3 fl3 up3 => ?_
    have J3 : Inv X pins σ' H' { s' with heap := h3 } := J.landed nb fl3.1 (up.trans up3) os ag
    obtain ⟨oe3, vs3, he3, hz3, hd3⟩ := fl3.there
    have notFr : ∀ {h : Heap} {o : Obj} {vs : Array Value}, h.FunFrames B (X.env :: X.outer) → h.get? a = some o → o.data = .fields vs → a ∉ frs (X.env :: X.outer) := fun {h o vs} ff e dd hm => by
      obtain ⟨_, o', e', hnf⟩ := ff.mem hm
      rw [e] at e'; cases e'
      exact hnf _ dd
    have nfr := notFr fl3.2.2.1 he3 hd3
    have nL : a ≠ X.env.locals := fun z => nfr (List.mem_filterMap.mpr ⟨X.env, List.mem_cons_self, by rw [hf, z]⟩)
    have nF : a ∉ X.fs := fun hm => by
      obtain ⟨e, he, q⟩ := List.mem_filterMap.mp hm
      exact nfr (List.mem_filterMap.mpr ⟨e, List.mem_cons_of_mem _ he, q⟩)
    have S3 := J3.suite he3 hd3 na nL nF
    refine wpAny_handleBy_cons (codeAny_handlers_test ?_) (by intro q; cases q)
    have LT : PySem.W.Looks (model X.prog X.w) h3 (typeOf (.ref a)) cls := fun A Q E s k q => wpAny_typeOf_ref (k _ _ he3) (by rw [hz3.1]; exact q)
    have LM := PySem.W.exm_one (M := model X.prog X.w) (J3.kIn) LT hb1
    have test : ∀ {Q : Value → Shared → Prop} {E : Value → Shared → Prop}, Q c { s' with heap := h3 } → wpAny (model X.prog X.w) (X.A.mark (some (.ref a))) (eval (.Name x np) X.env) Q E { s' with heap := h3 } := fun {Q E} q => by
      obtain ⟨hg, hdbg, hm | ⟨hm, hv, hnn⟩⟩ := hc
      · exact ld_glob (X := X.suite a ((a, oe3) :: (X.pn ++ pins))) S3 hg hm q hdbg
      · exact ld_blt (X := X.suite a ((a, oe3) :: (X.pn ++ pins))) S3 hg hm hv q hnn hdbg
    refine test (LM.here ?_)
    cases b with
    | true =>
      refine codeAny_handlers_suite_as ?_
      refine HandSPX.lands_againZ fl3 fun h4 fl4 up4 => ?_
      have J4 : Inv X pins σ' H' { s' with heap := h4 } := J.landed nb fl4.1 ((up.trans up3).trans up4) os ag
      obtain ⟨oe4, vs4, he4, hz4, hd4⟩ := fl4.there
      have S4 := J4.suite he4 hd4 na nL nF
      refine store_ok (X := X.suite a ((a, oe4) :: (X.pn ++ pins))) (v := .ref a) S4 hN hi hloc rfl (fun s5 S5 => ?_) (.inr hln)
      have hot : HotC (suiteC X a ((a, oe4) :: (X.pn ++ pins)) (chE X a n pos')) := ⟨(a, oe4), ⟨rfl, vs4, hd4, hz4.2.2 vs4 hd4⟩, List.mem_cons_self⟩
      have S5' : Inv (suiteC X a ((a, oe4) :: (X.pn ++ pins)) (chE X a n pos')) [] (σ'.set i (some (.ref a))) H' s5 := Inv.wish (X := suiteX X a ((a, oe4) :: (X.pn ++ pins))) (suiteX_of S5) _
      refine wpAny_mono ((hsu a oe4 cls d (X.pn ++ pins) (chE X a n pos') hz4 ⟨_, hd4⟩ (takes_ch ok hs hf hN hi hln hpa tk) hot).run [] s5 _ H' _ S5' (hyes rfl a na)) (fun f s6 hsp => ?_) (fun _ _ z => z)
      have end_ : ∀ {σ6 : L2.St} {H6 : Hp} {Q : Shared → Prop} {E : Value → Shared → Prop}, Inv (suiteC X a ((a, oe4) :: (X.pn ++ pins)) (chE X a n pos')) [] σ6 H6 s6 → (∀ s7, Inv X pins (σ6.set i none) H6 s7 → Q s7) →
          wpAny (model X.prog X.w) X.A (do bindName X.env n .none; unbindBehindTheSuite X.env n pos') (fun _ s7 => Q s7) E s6 := fun {σ6 H6 Q E} S6 hq => gone_ok (unsuiteC S6 ok) hN hi hln hq
      cases f with
      | next =>
        obtain ⟨σ6, H6, S6, q6⟩ := hsp
        exact end_ S6 fun s7 J7 => ⟨_, _, J7, q6⟩
      | brk =>
        obtain ⟨σ6, H6, S6, q6⟩ := hsp
        exact end_ S6 fun s7 J7 => ⟨_, _, J7, q6⟩
      | cont =>
        obtain ⟨σ6, H6, S6, q6⟩ := hsp
        exact end_ S6 fun s7 J7 => ⟨_, _, J7, q6⟩
      | ret u =>
        obtain ⟨v6, σ6, H6, S6, r6, q6⟩ := hsp
        exact end_ S6 fun s7 J7 => ⟨_, _, _, J7, r6, q6⟩
    | false =>
      show wpAny _ X.A (handleBy (.ref a) X.env []) _ _ _
      refine wpAny_handleBy_nil ?_
      obtain ⟨k1, k2, k3, oe, vs, T, oT, ts', he, hz, hd, h1, hr⟩ := id fl3
      unfold PySem.passOn
      refine wpAny_bind (wpAny_field he hd h1 ?_)
      rw [if_neg (show ¬ ((Value.ref T == Value.none) = true) from by simp)]
      have fin : wpAny (model X.prog X.w) X.A (setFlight (.ref a) X.env.frame) (fun _ s4 => wpAny (model X.prog X.w) X.A (throw (.ref a) : Sem Flow) (SP X pins D) X.xe s4) X.xe { s' with heap := h3 } := by
        rw [hf]
        refine HandSPX.setFlight_upZ (flyingZ_imp (fun o z => L2N.Zn.zc z) fl3) fun h4 hh4 up4 => wpAny_throw (tk _ _ ?_)
        exact ⟨a, B, sI, pins, σ', H', cls, d, rfl, J, nb, (up.trans up3).trans up4, .inr (.inr (by rw [hs]; exact hh4)), na, os, ag, hno rfl⟩
      first
        | exact wpAny_bind (wpAny_pure (wpAny_bind fin))
        | exact wpAny_bind fin
  · cases f with
    | next =>
      obtain ⟨σ', H', J', q⟩ := hsp
      exact wpAny_execs_nil ⟨σ', H', J'.ofTry ok, q⟩
    | brk =>
      obtain ⟨σ', H', J', q⟩ := hsp
      exact ⟨σ', H', J'.ofTry ok, q⟩
    | cont =>
      obtain ⟨σ', H', J', q⟩ := hsp
      exact ⟨σ', H', J'.ofTry ok, q⟩
    | ret u =>
      obtain ⟨v, σ', H', J', r, q⟩ := hsp
      exact ⟨v, σ', H', J'.ofTry ok, r, q⟩
end
end Fl

-- KX3
/-! a held error: its fields, its kinds; repr of data -/
namespace Fl
open PySem PySem.Spec PyProof.Rows L2
section
variable {Y : Cx} {a C : Addr} {oe : Obj} {cls : Value} {d : Option Addr}
/-- the held error at a is an instance of the class at C, its dict tracked -/
theorem held_inst {pins : List (Addr × Obj)} {σ : L2.St} {H : Hp} {s : Shared} {dd : Addr} {fs : List (Str × V)} (I : Inv Y pins σ H s) (hp : (a, oe) ∈ Y.pn) (hz : Zc (.ref C) (some dd) oe) (hf : ∃ vs, oe.data = .fields vs) (hd : H dd = some (.xd fs)) :
    ∃ od, PySem.W.InstAt s.heap a oe C (some od) ∧ ∀ n v, fs.lookup n = some v → ∃ u, RelV v u ∧ PySem.W.lookIn n od = some (some u) := by
  obtain ⟨hget, _⟩ := I.pin (a, oe) (List.mem_append_left _ hp)
  obtain ⟨vs, hv⟩ := hf
  have hx : ObjOk Y.prog Y.w H s.heap dd (.xd fs) := I.hok dd _ hd
  obtain ⟨mA, hns, hr⟩ := hx
  obtain ⟨od, ho, hl⟩ := lookIn_ns hns
  refine ⟨od, ⟨hget, hz.1, by unfold PySem.W.notCls; rw [hv] <;> rfl, by rw [hz.2]; exact ho⟩, fun n v e => ?_⟩
  obtain ⟨u, hu, ru⟩ := RelO.some_of (v := v) (o := mA n) (by rw [← e]; exact hr n)
  exact ⟨u, ru, by rw [hl, hu]⟩
/-- err.n -/
theorem pe_xfY {e : Expr} {te : TE} {pos : Pos} {n : Str} (T : XfC Y.K C) (hno : PySem.W.findIn Y.K (.ref C) n = some none) (hp : (a, oe) ∈ Y.pn) (hz : Zc cls d oe) (hf : ∃ vs, oe.data = .fields vs) (he : PE Y e te) (hb : attributeBase e n Y.env (eval e Y.env) = eval e Y.env := by rfl) :
    PE Y (.Attribute e n pos) (tXf a cls d C n te) := by
  refine ⟨fun pins s σ H Q I h => attr_of hb (thn (he.run pins s σ H _ I h) fun u s1 hh => ?_)⟩
  obtain ⟨x, H1, I1, rx, rfl, ec, dd, fs, v, ed, ea, l, q⟩ := hh
  obtain rfl : u = Value.ref a := rx
  obtain ⟨od, J, hl⟩ := held_inst I1 hp (by rw [ec, ed] at hz; exact hz) hf ea
  obtain ⟨w', rw', lw⟩ := hl n v l
  exact HandSPX.exc_get I1.kIn J T.ga T.gg T.exC (PySem.W.findObj_own T.hdC hno rfl lw) (handed_of rw') ⟨v, H1, I1.tok _, rw', q⟩
/-- isinstance(err, c) -/
def rIsED (K : PySem.W.Frag) (C a dd : Addr) : List V → Hp → VK → Prop := fun xs H Q => ∃ (c : V) (cv : Value) (b : Bool) (fs : List (Str × V)), xs = [.ref a, c] ∧ H dd = some (.xd fs) ∧ (∀ u, RelV c u → u = cv) ∧ PySem.W.kitOne K (.ref C) cv = some b ∧ Q (.bl b) H
theorem call_isED {dd : Addr} (E : ExcC Y.K C) (hp : (a, oe) ∈ Y.pn) (hz : Zc (.ref C) (some dd) oe) (hf : ∃ vs, oe.data = .fields vs) : CallR Y (.builtin "isinstance") (rIsED Y.K C a dd) := by
  intro pins s σ H xs us Q I r h
  obtain ⟨c, cv, b, fs, rfl, hd, hcv, e, q⟩ := h
  match us, r with
  | [_, _], .cons rx (.cons rt .nil) =>
    cases rx
    obtain rfl := hcv _ rt
    obtain ⟨od, J, _⟩ := held_inst I hp hz hf hd
    obtain ⟨cd, hcd, _⟩ := PySem.W.any_some E.hd
    exact PySem.W.kia_one (PySem.W.kitx_exc (by rw [hcd]; rfl) E.hg E.hk E.hs E.ha E.hn E.ht E.hm) I.kIn J e (fun z => nomatch z) fun tk => ⟨.bl b, H, I.kept (t' := tk) fun _ _ z => z, rfl, q⟩
end
section
variable {X : Cx}
/-- repr of data in a tuple or a list -/
def rReprD (K : PySem.W.Frag) : List V → Hp → VK → Prop := fun xs H Q => ∃ (a : Addr) (d : PyData), xs = [.ref a] ∧ Dp K H (.ref a) d ∧ d.showable = true ∧ d.hasDict = false ∧ d.depth ≤ 60 ∧ d.shown.length ≤ sizeLine ∧ Q (.str d.shown) H
theorem call_reprD (hg : X.A.guards = some []) (hu : X.A.units + 61 < cLine) : CallR X (.builtin "repr") (rReprD X.K) := by
  intro pins s σ H xs us Q I r h
  obtain ⟨a, d, rfl, hd, hs, hnd, hdp, hz, q⟩ := h
  match us, r with
  | [_], .cons rx .nil =>
    cases rx
    obtain ⟨as, rd⟩ := Dp.reads I d _ _ hd rfl
    exact repr_of_reads' rd hs (PyData.noDict_hsm hnd) hg (by omega) (fun _ _ e => e) (fun h' u tk hk => ⟨.str d.shown, H, I.kept (t' := tk) hk, ⟨_, rfl⟩, q⟩) hz
end
end Fl

-- KX4
/-! a list comprehension whose element may raise -/
namespace Fl
open PySem PySem.Spec PyProof.Rows L2
/-- a block's context with a wish of its own about exceptions -/
abbrev blkE (X : Cx) (s : Shared) (H : Hp) (scope : Scope) (cenv : Env) (fp : List Addr) (xe : Value → Shared → Prop) : Cx := { X.blk s H scope cenv fp with xe := xe }
theorem data_ne {h : Heap} {L b : Addr} {o : Obj} {vs : Array Value} {m : Str → Option Value} (hn : h.Ns L m) (ho : h.get? b = some o) (hd : o.data = .fields vs) : b ≠ L := by
  intro z
  obtain ⟨oL, es, ep, e, d, _⟩ := hn
  rw [z] at ho
  rw [show h.get? L = some oL from e] at ho
  cases ho
  rw [d] at hd
  cases hd
/-- frames keep under a change of an object that is none -/
theorem frames_but {base base' h h' : Heap} {C : Addr} (hs : ∀ b, b ≠ C → h'.get? b = h.get? b) (hb : ∀ b, base.get? b = none → base'.get? b = none) : ∀ {l : List Env}, C ∉ frs l → h.FunFrames base l → h'.FunFrames base' l
  | [], _, _ => trivial
  | env :: l, hC, ⟨hk, ⟨M, o, hf, hn, e, d⟩, hr⟩ => by
    refine ⟨hk, ⟨M, o, hf, hb M hn, (hs M fun z => hC ?_).trans e, d⟩, frames_but hs hb (fun z => hC ?_) hr⟩
    · rw [← z]; exact List.mem_filterMap.mpr ⟨env, List.mem_cons_self, hf⟩
    · obtain ⟨e', he', q⟩ := List.mem_filterMap.mp z
      exact List.mem_filterMap.mpr ⟨e', List.mem_cons_of_mem _ he', q⟩
section
variable {X : Cx} {pins : List (Addr × Obj)} {σ : L2.St} {H3 : Hp} {s3 : Shared} {scope : Scope} {ce : Env} {fp : List Addr} {E : XK} {use : Option (Value → Sem Unit)} {Qf : Value → Shared → Prop} {acc : Value}
/-- what is wished of an exception in the block -/
def blkX (X : Cx) (ce : Env) (use : Option (Value → Sem Unit)) (Qf : Value → Shared → Prop) (acc : Value) : Value → Shared → Prop :=
  notedBy (model X.prog X.w) X.A ce fun e s' => compEnds (model X.prog X.w) X.A X.xe use Qf acc ce (.error e) s'
/-- a callee's exception leaves the block, then flies in the def -/
theorem blk_passes (I3 : Inv X pins σ H3 s3) (hst : X.stack = X.env :: X.outer) (hfm : X.env.frame = some X.env.locals) (hcf : ce.frame = X.env.frame) (hC : s3.heap.objs.size ≤ ce.locals)
    (hfp : ∀ b ∈ fp, (b ∈ X.ex ∨ X.s_0.heap.objs.size ≤ b) ∧ b ≠ X.env.locals ∧ (∀ x c, X.env.cells.lookup x = some c → c ≠ b) ∧ ∀ p ∈ X.pn ++ pins, p.1 ≠ b)
    (tk : L2.Takes X (fun cls d _ H => E cls d H)) : Passes (L2.CX X.prog X.w) (blkE X s3 H3 scope ce fp (blkX X ce use Qf acc)) E := by
  intro pins' σ' H' s e s' I c
  have c0 := c
  obtain ⟨a0, B0, H0, cls0, d0, ea0, fl0, _⟩ := c0
  obtain ⟨a, B, sI, pins2, σ2, H2, cls, d, ea, J, nb, up, sky, na, os, ag, w⟩ := XE.of_call (W := fun cls d _ H => E cls d H) I (fun _ _ _ h => h) c
  subst ea
  have z0 : a = a0 := Value.ref.inj ea0
  subst z0
  -- it flies
  have fl : HandSPX.FlyingZ B X.stack a (Zc cls d) s'.heap := by
    obtain ⟨_, _, _, oe0, vs0, T0, oT0, ts0, he0, _, hd0, h10, _, _, hT0, hdT0, h30⟩ := fl0
    rcases sky with ⟨_, _, _, oe, vs, he, _, hd, h1⟩ | fl | ⟨_, _, _, oe, vs, T, oT, ts, he, _, hd, h1, _, _, hT, hdT, h3⟩
    · rw [he0] at he; cases he
      rw [hd0] at hd; cases hd
      rw [h10] at h1; cases h1
    · exact fl
    · rw [he0] at he; cases he
      rw [hd0] at hd; cases hd
      rw [h10] at h1; cases h1
      rw [hT0] at hT; cases hT
      rw [hdT0] at hdT; cases hdT
      rw [h30] at h3; cases h3
  have ok := I3.ok
  have hfr : X.A.frames = some (X.env :: X.outer) := by rw [ok.frames, hst]
  have fl' : HandSPX.FlyingZ B (X.env :: X.outer) a (Zc cls d) s'.heap := by rw [← hst]; exact fl
  show wpAny (model X.prog X.w) X.A (noteFrame (.ref a) ce) _ _ s'
  rw [noteFrame_env _ hcf]
  refine HandSPX.looks_onZ Zc.steady hfr hfm fl' fun h3 hh3 up3 => ?_
  show compEnds _ _ _ _ _ _ _ (.error (.ref a)) _
  -- the block's own object
  obtain ⟨m, hn0, _⟩ := J.loc
  have hnI : sI.heap.Ns ce.locals m := hn0
  have hn3 : h3.Ns ce.locals m := (up.trans up3).ns hnI
  have fin : CompFails (model X.prog X.w) X.A X.xe ce (.ref a) { s' with heap := h3 } := by
    refine ⟨m, hn3, fun h4 m4 hn4 hs4 => ?_⟩
    have CnF : ce.locals ∉ frs X.stack := fun hm => by
      obtain ⟨_, o, ho, _⟩ := I3.stack.mem hm
      exact absurd (Nat.lt_of_lt_of_le (Heap.lt_size ho) hC) (Nat.lt_irrefl _)
    obtain ⟨B', g1, g2⟩ := restrict B fun b => decide (b ≠ ce.locals)
    have gB : ∀ b, b ≠ ce.locals → B'.get? b = B.get? b := fun b hb => g1 b (decide_eq_true hb)
    have gC : B'.get? ce.locals = none := g2 _ (by simp)
    have gN : ∀ b, B.get? b = none → B'.get? b = none := fun b hb => by
      by_cases z : b = ce.locals
      · rw [z]; exact gC
      · rw [gB b z]; exact hb
    obtain ⟨f1, f2, f3, oe, vs, T, oT, ts, he, hz, hd, h1, hnT, hTe, hT, hdT, hr⟩ := hh3
    have hh4 : HandSPX.HeldZ B' (X.env :: X.outer) a (Zc cls d) X.env.locals h4 := by
      refine ⟨fun b o e => ?_, gN a f2, frames_but (C := ce.locals) (fun b hb => hs4.2 b hb) gN (by rw [← hst]; exact CnF) f3, oe, vs, T, oT, ts, ?_, hz, hd, h1, gN T hnT, hTe, ?_, hdT, hr⟩
      · have hb : b ≠ ce.locals := fun z => by rw [z, gC] at e; cases e
        rw [gB b hb] at e
        exact (hs4.2 b hb).trans (f1 b o e)
      · exact (hs4.2 a (data_ne hn3 he hd)).trans he
      · exact (hs4.2 T (data_ne hn3 hT hdT)).trans hT
    -- the state without the exception and the block's object
    obtain ⟨G, k1, k2⟩ := restrict sI.heap fun b => decide (b ≠ ce.locals)
    have kG : ∀ b, b ≠ ce.locals → G.get? b = sI.heap.get? b := fun b hb => k1 b (decide_eq_true hb)
    have kC : G.get? ce.locals = none := k2 _ (by simp)
    have nC : ∀ b o, s3.heap.get? b = some o → b ≠ ce.locals := fun b o e z => absurd (Nat.lt_of_lt_of_le (Heap.lt_size e) (by rw [z]; exact hC)) (Nat.lt_irrefl _)
    have HC : H2 ce.locals = none := J.free
    have jb : Un (frs X.stack) fp H3 H2 s3.heap sI.heap := J.base
    have hokG : HOk X.prog X.w H2 G := fun b o q => by
      have nb' : ∀ c u, H2 c = some u → c ≠ ce.locals := fun c u e z => by rw [z, HC] at e; cases e
      refine (J.hok b o q).stay (fun c v hc r => (kG c ?_).trans r) (fun _ r => r) fun _ _ r => r
      rcases hc with hc | hc
      · rw [hc]; exact nb' b _ q
      · exact nb' c _ hc
    have I' : Inv X pins σ H2 { sI with heap := G } := I3.call' (s' := { sI with heap := G }) (ch := fp) J.os
      ⟨fun b o e n hb hx => (kG b (nC b o e)).trans (jb.keep b o e n hb hx), fun b o e n hb hx => by
          obtain ⟨sl, q⟩ := jb.slot b o e n hb hx
          exact ⟨sl, (kG b (nC b o e)).trans q⟩, jb.free, fun b o e hx => by
          obtain ⟨o', q⟩ := jb.there b o e hx
          exact ⟨o', (kG b (nC b o e)).trans q⟩, jb.tups, jb.frzs, jb.tbls⟩ hokG J.bare hfp
    unfold PySem.passOn
    obtain ⟨_, _, _, oe4, vs4, T4, _, _, he4, _, hd4, h14, _⟩ := id hh4
    refine wpAny_bind (wpAny_field he4 hd4 h14 ?_)
    rw [if_neg (show ¬ ((Value.ref T4 == Value.none) = true) from by simp)]
    have last : wpAny (model X.prog X.w) X.A (setFlight (.ref a) ce.frame) (fun _ s4 => wpAny (model X.prog X.w) X.A (throw (.ref a) : Sem Value) (fun _ _ => False) X.xe s4) X.xe { s' with heap := h4 } := by
      rw [hcf, hfm]
      refine HandSPX.setFlight_onZ hh4 fun h5 hh5 up5 => wpAny_throw (tk _ _ ?_)
      refine ⟨a, B', { sI with heap := G }, pins, σ, H2, cls, d, rfl, I', fun b o e hb => ?_, fun b o e hnf => ?_, .inr (.inr (by rw [hst]; exact hh5)), na, os, ag, w⟩
      · have hbC : b ≠ ce.locals := fun z => by
          have e' : G.get? b = some o := e
          rw [z, kC] at e'; cases e'
        rw [gB b hbC]
        exact nb b o ((kG b hbC).symm.trans e) hb
      · have hbC : b ≠ ce.locals := fun z => by
          have e' : G.get? b = some o := e
          rw [z, kC] at e'; cases e'
        obtain ⟨sl, e1⟩ := (up.trans up3) b o ((kG b hbC).symm.trans e) hnf
        obtain ⟨sl', e2⟩ := up5 b _ ((hs4.2 b hbC).trans e1) hnf
        exact ⟨sl', e2⟩
    first
      | exact wpAny_bind (wpAny_pure (wpAny_bind last))
      | exact wpAny_bind last
  cases use <;> exact fin
/-- back in the def: the block is over -/
theorem blk_back (I3 : Inv X pins σ H3 s3) {σ' : L2.St} {H' : Hp} {s' : Shared} {xe : Value → Shared → Prop} (hfp : ∀ b ∈ fp, (b ∈ X.ex ∨ X.s_0.heap.objs.size ≤ b) ∧ b ≠ X.env.locals ∧ (∀ x c, X.env.cells.lookup x = some c → c ≠ b) ∧ ∀ p ∈ X.pn ++ pins, p.1 ≠ b)
    (J : Inv (blkE X s3 H3 scope ce fp xe) [] σ' H' s') : Inv X pins σ H' s' := I3.call' (ch := fp) J.os J.base J.hok J.bare hfp
end
section
variable {X : Cx}
/-- the same as tLc (the element may raise) -/
theorem lcX_core {E : XK} {pins : List (Addr × Obj)} {s : Shared} {σ : L2.St} {H : Hp} {Q : VK} {elt tg iter : Expr} {scope : Scope} {own : List (Str × Nat)} {pos pos' : Pos} {wi : TI} {g : TG} {te : TE} {use : Option (Value → Sem Unit)} {Qf : Value → Shared → Prop}
    (hst : X.stack = X.env :: X.outer) (hfm : X.env.frame = some X.env.locals) (tk : L2.Takes X (fun cls d _ H => E cls d H))
    (hc : X.calm = true) (hN : X.N.Nodup) (I : Inv X pins σ H s) (hi : PI X tg iter wi) (ok : BlkOk X.N X.env.scope scope own)
    (hg : ∀ (s : Shared) (H : Hp) (C : Addr) (cl : List (Str × Addr)) (fp : List Addr) (xe : Value → Shared → Prop), PG (blkE X s H scope (compEnvC scope cl C X.env) fp xe) tg g)
    (he : ∀ (s : Shared) (H : Hp) (C : Addr) (cl : List (Str × Addr)) (fp : List Addr) (xe : Value → Shared → Prop), Passes (L2.CX X.prog X.w) (blkE X s H scope (compEnvC scope cl C X.env) fp xe) E → PE (blkE X s H scope (compEnvC scope cl C X.env) fp xe) elt te)
    (hs : ∀ x, foldedSetIterable iter X.env x = pure x)
    (h : tLc wi g tYes te (own.map (·.2)) σ H Q)
    (hRR : ∀ (D : Addr) (ce : Env) (s' : Shared) (m : Str → Option Value) (H' : Hp), Inv X pins σ H' s' → Q (.ref D) H' → s'.heap.Ns ce.locals m → FpOk X pins H' ce.locals → compEnds (model X.prog X.w) X.A X.xe use Qf (.ref D) ce (.ok .next) s') :
    wpAny (model X.prog X.w) X.A (comprehension (.ListComp elt [⟨tg, iter, [], 0⟩] scope pos) scope X.env pos' (newList []) false (eval iter X.env) use) Qf X.xe s := by
  have hcl : ∀ y ∈ scope.names, y.2 = .free → ∃ c, X.env.cells.lookup y.1 = some c := fun y hy e => (ok.free y hy e).elim (fun k => I.ok.has _ (.inl k)) fun k => I.ok.has _ (.inr k)
  refine comprehension_at rfl hs (closure_ok hcl) ok.kind (fun y hy e => by rw [ok.uniq y hy, e]) (thn (hi.run pins s σ H _ I h) fun xv s1 hx => thn hx fun itv s2 h2 => ?_)
  obtain ⟨it, fp, tn, J, H2, rfl, I2, T, st2, f2, q⟩ := h2
  refine wpAny_newObj_type (newEnv_comp ?_) (by show 0 ≤ sizeLine; decide)
  obtain ⟨D, hD⟩ : ∃ D, D = s2.heap.objs.size := ⟨_, rfl⟩
  rw [← hD]
  have hDn : H2 D = none := I2.hok.fresh (Nat.le_of_eq hD.symm)
  obtain ⟨W, ⟨m0, w0⟩, turn⟩ := q D hDn
  obtain ⟨s3, hs3⟩ : ∃ s3 : Shared, s3 = { s2 with heap := s2.heap.push { cls := .type "list", data := .seq ([] : List Value).toArray } } := ⟨_, rfl⟩
  have hp3 : s3.heap = s2.heap.push { cls := .type "list", data := .seq ([] : List Value).toArray } := by rw [hs3]
  have up3 : ∀ b o, s2.heap.get? b = some o → s3.heap.get? b = some o := fun b o e => by rw [hp3]; exact Heap.get?_push_of_some _ e
  have I3 : Inv X pins σ (upd H2 D (.lst [])) s3 := by
    rw [hs3]
    refine I2.laid (t' := s2.toks) (fun b o e => Heap.get?_push_of_some _ e) (Nat.le_of_eq hD.symm) ⟨Nat.zero_le _, [], 0, .nil, ?_⟩
    rw [hD]
    exact Heap.get?_push_size _ rfl
  have lt2 : ∀ b ∈ fp, b < s2.heap.objs.size := fun b hb => let ⟨_, e, _⟩ := T.obj _ _ st2 b hb; Heap.lt_size e
  have f3 : ∀ b ∈ fp, FpOk X pins (upd H2 D (.lst [])) b ∧ b < s3.heap.objs.size := fun b hb => by
    refine ⟨⟨?_, (f2 b hb).2⟩, by rw [hp3, Heap.size_push]; exact Nat.lt_succ_of_lt (lt2 b hb)⟩
    rw [upd_ne (by rw [hD]; exact Nat.ne_of_lt (lt2 b hb))]
    exact (f2 b hb).1
  have hfp : ∀ b ∈ fp, (b ∈ X.ex ∨ X.s_0.heap.objs.size ≤ b) ∧ b ≠ X.env.locals ∧ (∀ x c, X.env.cells.lookup x = some c → c ≠ b) ∧ ∀ p ∈ X.pn ++ pins, p.1 ≠ b :=
    fun b hb => let z := (f3 b hb).1; ⟨z.2.2.2.1, z.2.1, z.2.2.2.2.1, z.2.2.2.2.2⟩
  have st3 : tn 0 s3.heap := T.keep _ _ _ st2 fun b _ o e => up3 b o e
  obtain ⟨ce, hce⟩ : ∃ ce, ce = compEnvC scope (cellsFrom (s3.heap.objs.size + 1) scope.names (cloFrom X.env.cells scope.names [])) s3.heap.objs.size X.env := ⟨_, rfl⟩
  have I4 := block_start I3 ok hN f3
  rw [← hce] at I4
  have pg : ∀ xe, PG (blkE X s3 (upd H2 D (.lst [])) scope ce fp xe) tg g := fun xe => by rw [hce]; exact hg _ _ _ _ _ _
  have pe : ∀ xe, Passes (L2.CX X.prog X.w) (blkE X s3 (upd H2 D (.lst [])) scope ce fp xe) E → PE (blkE X s3 (upd H2 D (.lst [])) scope ce fp xe) elt te := fun xe hx => by rw [hce] at hx ⊢; exact he _ _ _ _ _ _ hx
  have cL : ce.locals = s3.heap.objs.size := by rw [hce]; rfl
  have cF : ce.frame = X.env.frame := by rw [hce]; rfl
  have nfp : ∀ b ∈ fp, (upd H2 D (.lst [])) b = none := fun b hb => (f3 b hb).1.1
  have key : codeAny (model X.prog X.w) X.A (.compStart (.ListComp elt [⟨tg, iter, [], 0⟩] scope pos) 0 (.ref it) (.ref D) ce) (compEnds (model X.prog X.w) X.A X.xe use Qf (.ref D) ce)
      { s3 with heap := pushCells (s3.heap.push { cls := .type "dict", data := .dict #[] }) scope.names } := by
    obtain ⟨s4, hs4⟩ : ∃ s4 : Shared, s4 = { s3 with heap := pushCells (s3.heap.push { cls := .type "dict", data := .dict #[] }) scope.names } := ⟨_, rfl⟩
    have st4 : tn 0 s4.heap := T.keep _ _ _ st3 fun b _ o e => by rw [hs4]; exact pushCells_keeps _ _ _ _ (Heap.get?_push_of_some _ e)
    rw [← hs4] at I4 ⊢
    have ch := blk_passes (ce := ce) (fp := fp) (scope := scope) (use := use) (Qf := Qf) (acc := .ref D) I3 hst hfm cF (Nat.le_of_eq cL.symm) hfp tk
    have pgX := pg (blkX X ce use Qf (.ref D))
    have peX := pe (blkX X ce use Qf (.ref D)) ch
    obtain ⟨Y, hY⟩ : ∃ Y, Y = blkE X s3 (upd H2 D (.lst [])) scope ce fp (blkX X ce use Qf (.ref D)) := ⟨_, rfl⟩
    have I4' : Inv (blkE X s3 (upd H2 D (.lst [])) scope ce fp (blkX X ce use Qf (.ref D))) [] (wipe σ (own.map (·.2))) (upd H2 D (.lst [])) s4 := Inv.wish (X := X.blk s3 (upd H2 D (.lst [])) scope ce fp) I4 _
    -- the iterator's own objects may turn
    have stat : ∀ {σ' : L2.St} {H' : Hp} {s' : Shared}, Inv (blkE X s3 (upd H2 D (.lst [])) scope ce fp (blkX X ce use Qf (.ref D))) [] σ' H' s' → (∀ b ∈ fp, H' b = none) →
        ∀ b ∈ fp, FpOk (blkE X s3 (upd H2 D (.lst [])) scope ce fp (blkX X ce use Qf (.ref D))) [] H' b := fun {σ' H' s'} J' hn b hb =>
      ⟨hn b hb, (J'.ok.exf b hb).1, J'.ok.exfs b hb, .inl hb, fun x c e => (J'.ok.exf b hb).2 x c e, fun p hp => nomatch (show p ∈ ([] : List (Addr × Obj)) from hp)⟩
    have loop : codeAny (model X.prog X.w) X.A (.compLoop (.ListComp elt [⟨tg, iter, [], 0⟩] scope pos) 0 (.ref it) (.ref D) ce) (compEnds (model X.prog X.w) X.A X.xe use Qf (.ref D) ce) s4 := by
      refine compLoop_any (fun n s' => ∃ i H', Inv (blkE X s3 (upd H2 D (.lst [])) scope ce fp (blkX X ce use Qf (.ref D))) [] (wipe σ (own.map (·.2))) H' s' ∧ tn i s'.heap ∧ (∀ b ∈ fp, H' b = none) ∧ W i n H') ?_ m0 ⟨0, _, I4', st4, nfp, w0⟩
      rintro n s5 ⟨i, H5, I5, st5, n5, w5⟩
      rcases turn i n H5 w5 with ⟨stop, qq⟩ | ⟨go, Nx, hNx, step⟩
      · refine thn (T.done (blkE X s3 (upd H2 D (.lst [])) scope ce fp (blkX X ce use Qf (.ref D))) rfl rfl rfl hc i [] s5 _ H5 _ I5 (stat I5 n5) st5 stop) fun r s6 ⟨hr, I6⟩ => ?_
        subst hr
        obtain ⟨m, hn, _⟩ := id I6.loc
        have nC : H5 ce.locals = none := I6.free
        refine hRR D ce s6 m H5 (blk_back I3 hfp I6) qq hn ?_
        exact I3.fpOk (Nat.le_of_eq cL.symm) nC
      · refine thn (T.item (blkE X s3 (upd H2 D (.lst [])) scope ce fp (blkX X ce use Qf (.ref D))) rfl rfl rfl hc i [] s5 _ H5 _ I5 (stat I5 n5) st5 go) fun r s6 ⟨u, hr, h6⟩ => ?_
        subst hr
        refine thn h6 fun _ s7 ⟨x, H7, I7, r7, y7, st7, n7⟩ => ?_
        have P7 := I7.pinned (stat I7 n7) (T.obj _ _ st7)
        refine thn (pgX.run _ s7 _ H7 x u _ P7 r7 (step x H7 y7)) fun _ s8 ⟨σ8, H8, I8, hw8, q8⟩ => ?_
        refine thn ((pts_nil (X := blkE X s3 (upd H2 D (.lst [])) scope ce fp (blkX X ce use Qf (.ref D)))).run _ s8 σ8 H8 _ I8 q8) fun b s9 ⟨H9, I9, q9⟩ => ?_
        have next : ∀ {s' : Shared} {H' : Hp}, Inv (blkE X s3 (upd H2 D (.lst [])) scope ce fp (blkX X ce use Qf (.ref D))) ([] ++ pinsAt fp s7.heap) σ8 H' s' → Nx H' →
            ∃ m, m < n ∧ ∃ i H', Inv (blkE X s3 (upd H2 D (.lst [])) scope ce fp (blkX X ce use Qf (.ref D))) [] (wipe σ (own.map (·.2))) H' s' ∧ tn i s'.heap ∧ (∀ b ∈ fp, H' b = none) ∧ W i m H' := fun {s' H'} J' nx => by
          obtain ⟨m', hm, w'⟩ := hNx H' nx
          have held : ∀ b ∈ fp, ∀ o, s7.heap.get? b = some o → s'.heap.get? b = some o ∧ H' b = none := fun b hb o e =>
            let z := J'.pin (b, o) (List.mem_append_right _ (List.mem_append_right _ (mem_pinsAt hb e)))
            ⟨z.1, z.2.1⟩
          refine ⟨m', hm, i + 1, H', (J'.unpinned (pins := [])).weak (by rw [← hw8, wipe_length]) (fun j v e => by rw [← hw8] at e; exact (wipe_some e).1), T.keep _ _ _ st7 fun b hb o e => (held b hb o e).1, fun b hb => ?_, w'⟩
          obtain ⟨o, e, _⟩ := T.obj _ _ st7 b hb
          exact (held b hb o e).2
        cases b with
        | false =>
          simp only [Bool.false_eq_true, if_false] at q9 ⊢
          exact next I9 q9
        | true =>
          simp only [if_true] at q9 ⊢
          refine thn (peX.run _ s9 σ8 H9 _ I9 q9) fun z s10 ⟨yv, H10, I10, r10, acc, hD10, hz10, nx⟩ => ?_
          exact app_ok (X := blkE X s3 (upd H2 D (.lst [])) scope ce fp (blkX X ce use Qf (.ref D))) I10 hD10 hz10 r10 fun s11 I11 => next I11 nx
    exact codeAny_compStart_list loop (T.self X.A 0 _ _ _ st4 loop)
  rw [hce, hs3] at key
  exact key
/-- name = [e for target in iter], e may raise -/
theorem ps_setLcX {E : XK} {i : Nat} {y : Str} {py : Pos} {elt tg iter : Expr} {scope : Scope} {own : List (Str × Nat)} {pos spos : Pos} {wi : TI} {g : TG} {te : TE} (hst : X.stack = X.env :: X.outer) (hfm : X.env.frame = some X.env.locals) (tk : L2.Takes X (fun cls d _ H => E cls d H))
    (hc : X.calm = true) (hN : X.N.Nodup) (hy : X.N[i]? = some y) (hyl : X.env.scope.names.lookup y = some .local)
    (hsw : swapsWith (.ListComp elt [⟨tg, iter, [], 0⟩] scope pos) (some (.Name y py)) spos.line X.env = pure true) (hi : PI X tg iter wi) (ok : BlkOk X.N X.env.scope scope own)
    (hg : ∀ (s : Shared) (H : Hp) (C : Addr) (cl : List (Str × Addr)) (fp : List Addr) (xe : Value → Shared → Prop), PG (blkE X s H scope (compEnvC scope cl C X.env) fp xe) tg g)
    (he : ∀ (s : Shared) (H : Hp) (C : Addr) (cl : List (Str × Addr)) (fp : List Addr) (xe : Value → Shared → Prop), Passes (L2.CX X.prog X.w) (blkE X s H scope (compEnvC scope cl C X.env) fp xe) E → PE (blkE X s H scope (compEnvC scope cl C X.env) fp xe) elt te)
    (hs : ∀ x, foldedSetIterable iter X.env x = pure x := by intro _; rfl) :
    PS X (.Assign [.Name y py] (.ListComp elt [⟨tg, iter, [], 0⟩] scope pos) spos) (tAsg (tLc wi g tYes te (own.map (·.2))) (gName i)) := by
  refine ⟨fun pins s σ H D I h => ?_⟩
  rw [exec_Assign_Name_used _ _ _ _ hsw]
  refine wpAny_bind (wpAny_standAt (wpAny_bind ?_))
  show wpAny _ X.A (do let _ ← comprehension (.ListComp elt [⟨tg, iter, [], 0⟩] scope pos) scope X.env (firstIterPos [⟨tg, iter, [], 0⟩] pos) (newList []) false (eval iter X.env) (some (assign (.Name y py) X.env))) _ _ s
  have h' : tLc wi g tYes te (own.map (·.2)) σ H (fun x H1 => gName i x σ H1 D.nx) := h
  refine wpAny_bind (thn (lcX_core (Qf := fun _ s' => SP X pins D .next s') hst hfm tk hc hN I hi ok hg he hs h' fun L ce s' m H' I' q hn f => ?_) fun _ s' hq => wpAny_pure (wpAny_pure hq))
  show wpAny _ _ (assign (.Name y py) X.env (.ref L)) _ _ _
  refine wpAny_assign_Name (store_ok2 (v := V.ref L) I' hN hy (.inl hyl) rfl (fun s2 I2 ⟨a, sb, ha⟩ => ?_) (.inr hyl))
  obtain ⟨f0, f1, f2, f3, f4, f5⟩ := f
  have haC : ce.locals ≠ a := ha.elim (fun z => by rw [z]; exact f1) fun z e => f4 y a z e.symm
  exact ⟨m, hn.sameBut sb haC, fun h3 sb3 => ⟨_, H', I2.turned (t' := s2.toks) (fun b o hb e => (sb3.2 b hb).trans e) f0 f1 f3 f4 f5, q⟩⟩
end
end Fl

-- KX5
/-! match over written texts -/
namespace Fl
open PySem PySem.Spec PyProof.Rows L2
section
variable {X : Cx}
/-- the cases from here on, the subject's value at hand -/
def PM (X : Cx) (cs : List MatchCase) (t : V → TS) : Prop := ∀ (first : Bool) (pins : List (Addr × Obj)) (s : Shared) (σ : L2.St) (H : Hp) (D : Ends) (v : V) (u : Value), Inv X pins σ H s → RelV v u → t v D σ H →
  wpAny (model X.prog X.w) X.A (matchCases cs X.env u first) (SP X pins D) X.xe s
/-- case "..": body -/
def mStr (x : Str) (tb : TS) (tr : V → TS) : V → TS := fun v D σ H => ∃ y : Str, v = .str y ∧ if y = x then tb D σ H else tr v D σ H
/-- case _: body -/
def mAny (tb : TS) : V → TS := fun _ D σ H => tb D σ H
theorem pm_str {x : Str} {j : Nat} {p1 p2 : Pos} {body : List Stmt} {rest : List MatchCase} {tb : TS} {tr : V → TS} (hb : PSs X body tb) (hr : PM X rest tr) : PM X (⟨.MatchValue (.Constant (.str x) j p1) p2, none, body⟩ :: rest) (mStr x tb tr) := by
  intro first pins s σ H D v u I r h
  obtain ⟨y, rfl, h⟩ := h
  obtain ⟨t, rfl⟩ := r
  refine wpAny_matchCases_cons (wpAny_matchPattern_Value (Calls.Constant_str ?_))
  refine eq_str (wpAny_truthy_bool ?_)
  by_cases e : y = x
  · rw [if_pos e] at h
    subst e
    simp only [beq_self_eq_true, if_true]
    refine wpAny_assignInOrder_none ?_
    exact hb.run pins _ σ H D (I.tok _) h
  · rw [if_neg e] at h
    have e' : (y == x) = false := by simpa using e
    simp only [e', Bool.false_eq_true, if_false]
    exact hr false pins _ σ H D (.str y) (.str y t) (I.tok _) ⟨t, rfl⟩ h
theorem pm_any {p : Pos} {body : List Stmt} {rest : List MatchCase} {tb : TS} (hb : PSs X body tb) : PM X (⟨.MatchAs none none p, none, body⟩ :: rest) (mAny tb) := by
  intro first pins s σ H D v u I r h
  refine wpAny_matchCases_cons (wpAny_matchPattern_Capture ?_)
  refine wpAny_assignInOrder_none ?_
  exact hb.run pins _ σ H D I h
def tMatch (te : TE) (t : V → TS) : TS := fun D σ H => te σ H fun v H1 => t v D σ H1
theorem ps_match {e : Expr} {cs : List MatchCase} {pos : Pos} {te : TE} {t : V → TS} (he : PE X e te) (hc : PM X cs t) : PS X (.Match e cs pos) (tMatch te t) :=
  ⟨fun pins s σ H D I h => wpAny_Match (thn (he.run pins s σ H _ I h) fun u s1 ⟨v, H1, I1, r1, q1⟩ => hc true pins s1 σ H1 D v u I1 r1 q1)⟩
end
end Fl

-- KT
/-! what the top has left of this program: the facts by names -/
namespace Fl
open PySem PySem.Spec PyProof.Rows L2
def fnD (x : Str) (i : Nat) : He.DefD := ⟨(x, none), x, x, defArgs (topS i), defBody (topS i), defScope (topS i), [], []⟩
def mtD (m q : Str) (j : Nat) (dv : List He.Dv) : He.DefD := ⟨("Words", some m), m, q, defArgs (inClass (topS 29) j), defBody (inClass (topS 29) j), defScope (inClass (topS 29) j), dv, []⟩
def fnA : List He.DefD := [fnD "is_integer" 17, fnD "is_count" 18, fnD "is_name" 19, fnD "is_rising" 20, fnD "is_table" 21, fnD "number_or_none" 25, fnD "count_or_none" 26, fnD "table_or_none" 27, fnD "numbers_or_none" 28]
def fnB : List He.DefD := [mtD "__init__" "Words.__init__" 0 [.int 0], mtD "word_here" "Words.word_here" 1 [], mtD "take" "Words.take" 2 [], mtD "take_word" "Words.take_word" 3 [], mtD "take_name" "Words.take_name" 4 [],
  mtD "take_number" "Words.take_number" 5 [], mtD "take_count" "Words.take_count" 6 [], mtD "take_table" "Words.take_table" 7 [], mtD "take_numbers" "Words.take_numbers" 8 [], mtD "finish" "Words.finish" 9 []]
def fnC : List He.DefD := [fnD "taken_kind" 32, fnD "web_read" 33, fnD "taken_store" 36, fnD "event_read" 37, fnD "read_event" 38, fnD "web_of_rows" 39, fnD "read_log" 40]
def fnE : List He.DefD := [fnD "_law_feed" 42, fnD "_law_draw" 43, fnD "_law_any" 44, fnD "_law_names" 45, fnD "_law_scene" 46, fnD "_law_kind" 47, fnD "_law_pairs" 48, fnD "_law_start" 49, fnD "_law_line" 50, fnD "_law_web_lines" 51, fnD "_law_lines" 52]
def fnF : List He.DefD := [fnD "_law_heard" 53, fnD "_law_is_number" 54, fnD "_law_is_name" 55, fnD "_law_can" 56, fnD "_law_spot" 57, fnD "_law_event_forms" 58, fnD "_law_event_of" 59, fnD "_law_log_of" 60, fnD "_law_log_due" 61]
def fnG : List He.DefD := [fnD "_law_odd_word" 62, fnD "_law_bent_line" 63, fnD "_law_bent" 64, fnD "_law_any_event" 65, fnD "_law_event_right" 66, fnD "law" 67]
def fnL : List He.DefD := fnA ++ (fnB ++ (fnC ++ (fnE ++ (fnF ++ fnG))))
def exNames : List Str := ["LetterError", "PaperError", "WebError", "LiveError", "TextError", "InvalidPaper", "NotUsable", "Missed", "InvalidEvent", "NothingToUndo", "InvalidText", "InvalidRow"]
def bltNames : List Str := ["isinstance", "len", "all", "int", "str", "tuple", "list", "sorted", "set", "sum", "min", "max"]
def bltMore : List Str := ["range", "zip", "enumerate", "repr", "bool", "ValueError"]
def faA : List He.Fa := exNames.map .glo
def faB : List He.Fa := bltNames.map .free
def faC : List He.Fa := bltMore.map .free
def faD : List He.Fa := [.glo "Words", .int "LONGEST_NAME" 8, .int "MOST_DIGITS" 60, .str "LETTERS" "abcdefghijklmnopqrstuvwxyz", .str "DIGITS" "0123456789", .cls "Words", .mkr "Words"]
def faE : List He.Fa := [.noat "Words" "own_words", .noat "Words" "own_line", .noat "Words" "own_field", .noat "Words" "own_spot"]
def faF : List He.Fa := [.meth "Words" "word_here", .meth "Words" "take", .meth "Words" "take_word", .meth "Words" "take_name", .meth "Words" "take_number", .meth "Words" "take_count", .meth "Words" "take_table", .meth "Words" "take_numbers", .meth "Words" "finish"]
def faG : List He.Fa := [.exm "InvalidText" "LetterError" true, .exm "InvalidText" "InvalidText" true]
def faH (l : List He.DefD) : List He.Fa := (l.filter fun d => d.at_.2.isNone).map fun d => .glo d.at_.1
def faL : List He.Fa := faA ++ (faB ++ (faC ++ (faD ++ (faE ++ (faF ++ (faG ++ faH fnL))))))
/-! the written tuples -/
def strsB : List Value → List Str → Bool
  | [], [] => true
  | .str y _ :: us, x :: xs => decide (y = x) && strsB us xs
  | _, _ => false
theorem strsB_ok : ∀ {us : List Value} {xs : List Str}, strsB us xs = true → Vals (xs.map V.str) us
  | [], [], _ => .nil
  | .str y t :: us, x :: xs, h => by
    obtain ⟨h1, h2⟩ := He.ba h
    rw [← of_decide_eq_true h1]
    exact .cons ⟨t, rfl⟩ (strsB_ok h2)
def tupB (K : PySem.W.Frag) (x : Str) (ss : List Str) : Bool := He.eqO (PySem.W.nsIn K mainGlobals x) (some (some (.ref (He.ga K x)))) && (match K.lookup (He.ga K x) with
  | some ⟨.type c, _, .seq its _, _⟩ => decide (c = "tuple") && (decide (its.size ≤ 64) && strsB its.toList ss)
  | _ => false)
theorem tupB_ok {K : PySem.W.Frag} {x : Str} {ss : List Str} (h : tupB K x ss = true) : PySem.W.nsIn K mainGlobals x = some (some (.ref (He.ga K x))) ∧ ∀ H, SqT K H (He.ga K x) (ss.map V.str) := by
  obtain ⟨h1, h2⟩ := He.ba h
  refine ⟨He.eqO_ok h1, fun H => ?_⟩
  cases q : K.lookup (He.ga K x) with
  | none =>
    rw [q] at h2
    cases h2
  | some o =>
    obtain ⟨oc, od, dt, osl⟩ := o
    rw [q] at h2
    cases oc with
    | type c =>
      cases dt with
      | seq its n =>
        obtain ⟨h3, h4⟩ := He.ba h2
        obtain ⟨h5, h6⟩ := He.ba h4
        have ec : c = "tuple" := of_decide_eq_true h3
        subst ec
        exact .inr ⟨_, its, n, q, rfl, rfl, Nat.le_trans (of_decide_eq_true h5) (by rw [sizeLine_eq]; decide), strsB_ok h6⟩
      | _ => cases h2
    | _ => cases dt <;> cases h2
/-! the error with its __init__ -/
def fnI : PySem.W.Frag → Option (Str × Str × Arguments × FuncBody × Scope × Addr × List Str × Addr) := fun K => match K.lookup (He.ma K (He.ga K "InvalidText") "__init__") with
  | some ⟨_, _, .func fd, _⟩ => some (fd.name, fd.qualname, fd.params, fd.body, fd.scope, fd.globals, fd.closure.map (·.1), fd.builtins)
  | _ => none

end Fl

-- KT2
/-! the error with its own __init__; the Hook; the facts as the walks take them -/
namespace Fl
open PySem PySem.W PySem.HandSPX
def itA (K : Frag) : Addr := He.ga K "InvalidText"
def itI (K : Frag) : Addr := He.ma K (itA K) "__init__"
def itCode (K : Frag) : Addr := match K.lookup (itI K) with
  | some ⟨_, _, .func fd, _⟩ => (match fd.code with
    | .ref c => c
    | _ => 0)
  | _ => 0
def itCell (K : Frag) : Addr := match K.lookup (itI K) with
  | some ⟨_, _, .func fd, _⟩ => (match fd.closure with
    | [(_, c)] => c
    | _ => 0)
  | _ => 0
def itCls (K : Frag) (C : Addr) : Bool := match K.lookup C with
  | some ⟨.type c, _, .cls cd, sl⟩ => (match cd.mro, sl.toList with
    | .ref C' :: bm, [_, _, _, _, some (.builtin n), _] => decide (c = "type") && (decide (C' = C) && (decide (n = "ValueError.__new__") && (!cd.hasDel && (cd.hasDict && refsVE bm))))
    | _, _ => false)
  | _ => false
theorem itCls_ok {K : Frag} {C : Addr} (h : itCls K C = true) : ∃ nm q N bs bm sn sub ab col dd k0 k1 k2 k3 k5, K.lookup C = some (excClassObj nm q C N bs bm true sn sub ab col dd k0 k1 k2 k3 k5 "ValueError.__new__") ∧ refsVE bm = true := by
  unfold itCls at h
  split at h
  · rename_i c dd cd sl ho
    split at h
    · rename_i C' bm k0 k1 k2 k3 n k5 hm hs
      simp only [Bool.and_eq_true, decide_eq_true_eq, Bool.not_eq_true'] at h
      obtain ⟨rfl, rfl, rfl, h4, h5, h6⟩ := h
      obtain ⟨nm, bs, mro, ns, qn, hd, sn, sub, ab, col, del⟩ := cd
      dsimp only at hm h4 h5
      subst hm h4 h5
      have hsl : sl = #[k0, k1, k2, k3, some (.builtin "ValueError.__new__"), k5] := by
        obtain ⟨l⟩ := sl
        simp only at hs
        rw [hs]
      subst hsl
      exact ⟨nm, qn, ns, bs, bm, sn, sub, ab, col, dd, k0, k1, k2, k3, k5, ho, h6⟩
    · cases h
  · cases h
def itB (K : Frag) : Bool := itCls K (itA K) && (He.eqO (findIn K (.ref (itA K)) "__setattr__") (some (some (.builtin "object.__setattr__"))) && (He.eqO (findIn K (.ref (itA K)) "line") (some none) && (He.eqO (findIn K (.ref (itA K)) "field") (some none)
  && (He.eqO (findIn K (.ref (itA K)) "__init__") (some (some (.ref (itI K)))) && (decide (typeIn K (.ref (itI K)) = some (.type "function")) && (keepIn K (.ref (itA K)) && (decide (subIn K (.ref (itA K)) (.type "BaseException") = some true)
  && (decide (subIn K (.ref (itA K)) (.type "ValueError") = some true) && (decide (typeIn K (.ref (itA K)) = some (.type "type")) && (decide (mroIn K (itA K) (.ref (itA K)) = some true) && (He.eqO (nsIn K cStatics "thirdparty.any") (some none)
  && (He.eqO (nsIn K mainGlobals "super") (some none) && He.eqO (ks_superIn K (itA K) (itA K) "__init__") (some (some (.builtin "ValueError.__init__")))))))))))))))
def itFnB (K : Frag) : Bool := match K.lookup (itI K) with
  | some ⟨_, _, .func fd, _⟩ => (match fd.code, fd.closure, fd.defaults with
    | .ref c, [(n, cc)], .none => decide (n = "__class__") && (codeIn K (.ref c) "InvalidText.__init__" && ((match K.lookup cc with
      | some ⟨_, _, .cell (some (.ref C)), _⟩ => decide (C = itA K)
      | _ => false) && (match K.lookup c with
      | some ⟨_, _, .fields vs, _⟩ => (match (vs[2]? : Option Value) with
        | some (.str file _) => decide ((pw.main.file : Str) = file)
        | _ => false)
      | _ => false)))
    | _, _, _ => false)
  | _ => false
abbrev FnI : Type := Option (Str × Str × Arguments × FuncBody × Scope × Addr × Addr)
def fnIt (K : Frag) : FnI := match K.lookup (itI K) with
  | some ⟨_, _, .func fd, _⟩ => some (fd.name, fd.qualname, fd.params, fd.body, fd.scope, fd.globals, fd.builtins)
  | _ => none
def fnItV : FnI := some ("__init__", "InvalidText.__init__", L2.defArgs sIT, .stmts (L2.defBody sIT), L2.defScope sIT, mainGlobals, builtinsNs)
theorem itT_ok {K : Frag} (h1 : itB K = true) (h2 : itFnB K = true) (h3 : fnIt K = fnItV) : Fx.ItT pw K (itA K) (itI K) (itCell K) (itCode K) "line" "field" (L2.defArgs sIT) (L2.defBody sIT) (L2.defScope sIT) "InvalidText.__init__" := by
  simp only [itB, Bool.and_eq_true, decide_eq_true_eq, He.eqO] at h1
  obtain ⟨a1, a2, a3, a4, a5, a6, a7, a8, a9, a10, a11, a12, a13, a14⟩ := h1
  have key : (∃ (oc : Value) (od : Option Addr) (doc pm kV : Value) (an : Option Addr) (ct : Value) (osl : Array (Option Value)),
    K.lookup (itI K) = some ⟨oc, od, .func (ksFn "__init__" "InvalidText.__init__" (L2.defArgs sIT) (L2.defBody sIT) (L2.defScope sIT) .none kV doc pm an (.ref (itCode K)) ct (itCell K)), osl⟩ ∧ codeIn K (.ref (itCode K)) "InvalidText.__init__" = true) ∧
    (∃ (oc : Value) (od : Option Addr) (vs : Array Value) (osl : Array (Option Value)) (file : Str) (tf : Tok), K.lookup (itCode K) = some ⟨oc, od, .fields vs, osl⟩ ∧ vs[2]? = some (.str file tf) ∧ ((pw.main.file : Str) == file) = true) ∧
    (∃ (oc : Value) (od : Option Addr) (osl : Array (Option Value)), K.lookup (itCell K) = some ⟨oc, od, .cell (some (.ref (itA K))), osl⟩) := by
    unfold itFnB at h2
    unfold fnIt fnItV at h3
    split at h2
    · rename_i oc od fd osl ho
      rw [ho] at h3
      split at h2
      · rename_i c n cc hc hcl hdf
        simp only [Bool.and_eq_true, decide_eq_true_eq] at h2
        obtain ⟨rfl, b2, b3, b4⟩ := h2
        have e1 : itCode K = c := by
          unfold itCode
          rw [ho]
          show (match fd.code with | .ref c => c | _ => 0) = c
          rw [hc]
        have e2 : itCell K = cc := by
          unfold itCell
          rw [ho]
          show (match fd.closure with | [(_, c)] => c | _ => 0) = cc
          rw [hcl]
        rw [e1, e2]
        obtain ⟨n1, n2, n3, n4, n5, n6, n7, n8, n9, n10, n11, n12, n13, n14, n15⟩ := fd
        have e3 : (some (n1, n2, n3, n4, n5, n6, n15) : FnI) = some (("__init__" : Str), ("InvalidText.__init__" : Str), L2.defArgs sIT, FuncBody.stmts (L2.defBody sIT), L2.defScope sIT, mainGlobals, builtinsNs) := h3
        simp only [Option.some.injEq, Prod.mk.injEq] at e3
        obtain ⟨q1, q2, q3, q4, q5, q6, q7⟩ := e3
        dsimp only at hc hcl hdf
        subst q1 q2 q3 q4 q5 q6 q7 hc hcl hdf
        refine ⟨⟨oc, od, n10, n11, n9, n12, n14, osl, ho, b2⟩, ?_, ?_⟩
        · split at b4
          · rename_i oc2 od2 vs osl2 ho2
            split at b4
            · rename_i file tf hv
              exact ⟨oc2, od2, vs, osl2, file, tf, ho2, hv, beq_iff_eq.mpr (of_decide_eq_true b4)⟩
            · cases b4
          · cases b4
        · split at b3
          · rename_i oc2 od2 C osl2 ho2
            have eC : C = itA K := of_decide_eq_true b3
            subst eC
            exact ⟨oc2, od2, osl2, ho2⟩
          · cases b3
      · cases h2
    · cases h2
  exact ⟨itCls_ok a1, a2, a3, a4, a5, a6, a7, a8, a9, a10, a11, key.1, key.2.1, key.2.2, a12, a13, a14⟩
end Fl

-- KT3
/-! the Hook of this program and the facts as the walks take them -/
namespace Fl
open PySem PySem.Spec PyProof.Rows L2
def kitL : List (Str × Bool) := [("PaperError", false), ("WebError", false), ("LiveError", false), ("TextError", true), ("InvalidText", true), ("InvalidRow", false)]
def excCB (K : PySem.W.Frag) (D : Addr) : Bool := He.eqO (PySem.W.findIn K (.ref D) "__class__") (some (some (.builtin "object.__class__"))) && (He.eqO (PySem.W.specialIn K (.builtin "object.__class__") "__get__") (some (some (.builtin "getset_descriptor.__get__")))
  && (decide (PySem.W.takesIn K (.builtin "object.__class__") = some true) && decide (PySem.W.mroIn K D (.type "object") = some true)))
def exB (K : PySem.W.Frag) : Bool := itB K && (itFnB K && (xfB K (itA K) && (excCB K (itA K) && ((kitL.all fun p => decide (PySem.W.kitOne K (.ref (itA K)) (.ref (He.ga K p.1)) = some p.2)) && (tupB K "GUARD_WORDS" ["on", "off"] && (tupB K "HEADS" ["kind", "asker"]
  && (tupB K "EVENT_WORDS" ["came", "guard", "note"]
  && decide (PySem.W.exmOne K (.ref (itA K)) (.ref (He.ga K "LetterError")) = some true))))))))
def tfL : List He.Defn := [("law", none), ("_law_event_right", none)]
def exC (K : PySem.W.Frag) : Bool := exB K && decide ((He.cT K ("law", none)).2 ≠ (He.cT K ("_law_event_right", none)).2)
abbrev AlY : Type := He.AlT × Bool × FnI
def obsK (g : Addr → Option Obj) (K : PySem.W.Frag) : AlY := (He.obsT faL fnL [] K, exC K && He.tabsB g tfL K, fnIt K)
abbrev kOf (g : Addr → Option Obj) : PySem.W.Frag := He.frT g (He.asD g 6 ++ [cStatics])
def obsY (g : Addr → Option Obj) : AlY := obsK g (kOf g)
def valY (w : World) : AlY := (He.valT fnL [] w, true, fnItV)
structure SaysY (w : World) (h : Heap) (K : PySem.W.Frag) : Prop where
  t : He.SaysT faL fnL [] w K
  more : exB K = true
  ne : (He.cT K ("law", none)).2 ≠ (He.cT K ("_law_event_right", none)).2
  it : fnIt K = fnItV
  hd : ∀ p ∈ tfL, PySem.W.codeHdIn K (He.cT K p).1 (He.cT K p).2 = true
  out : ∀ p ∈ tfL, K.lookup (He.cT K p).2 = none
  empty : ∀ p ∈ tfL, h.get? (He.cT K p).2 = some { cls := .none, data := .fields #[] }
theorem saysK_of {w : World} {h : Heap} {K : PySem.W.Frag} (hK : ∀ a o, h.get? a = some o → He.emptyTab o = true → K.lookup a = none) (e : obsK h.get? K = valY w) : SaysY w h K := by
  unfold obsK valY at e
  obtain ⟨e1, e4⟩ := Prod.mk.inj e
  obtain ⟨e2, e3⟩ := Prod.mk.inj e4
  obtain ⟨h12, h2⟩ := He.ba e2
  obtain ⟨h1, hne⟩ := He.ba h12
  have key : ∀ p ∈ tfL, PySem.W.codeHdIn K (He.cT K p).1 (He.cT K p).2 = true ∧ ∃ o, h.get? (He.cT K p).2 = some o ∧ He.emptyTab o = true := fun p hp => by
    obtain ⟨h3, h4⟩ := He.ba (List.all_eq_true.mp h2 p hp)
    refine ⟨h3, ?_⟩
    cases q : h.get? (He.cT K p).2 with
    | none =>
      rw [q] at h4
      cases h4
    | some o =>
      rw [q] at h4
      exact ⟨o, rfl, h4⟩
  refine ⟨e1, h1, of_decide_eq_true hne, e3, fun p hp => (key p hp).1, fun p hp => ?_, fun p hp => ?_⟩
  · obtain ⟨_, o, q, z⟩ := key p hp
    exact hK _ _ q z
  · obtain ⟨_, o, q, z⟩ := key p hp
    rw [q, He.emptyTab_eq z]
theorem saysY_of {w : World} {h : Heap} (e : obsY h.get? = valY w) : SaysY w h (kOf h.get?) := saysK_of (fun _ _ q z => He.frT_none q z) e
def hookY : PySem.W.Hook where
  α := AlY
  obs := fun s => obsY s.heap.get?
  val := fun w => valY w
  says := fun w h => ∃ K : PySem.W.Frag, K.In h ∧ SaysY w h K
  of := fun _ _ e => ⟨_, He.frT_in, saysY_of e⟩
  keeps := fun _ _ _ ⟨K, hK, c⟩ k => ⟨K, PySem.W.Frag.In.keeps hK k, ⟨c.t, c.more, c.ne, c.it, c.hd, c.out, fun p hp => k _ _ (c.empty p hp)⟩⟩
theorem obsY_eq {g : Addr → Option Obj} {s : Shared} (h : ∀ a, g a = s.heap.get? a) : obsY g = hookY.obs s := by
  have e : g = s.heap.get? := funext h
  rw [e] <;> rfl
/-! ### the facts -/
structure Tx (K : PySem.W.Frag) (mg : Str → Option Value) : Prop where
  d : He.SaysD faL fnL K
  more : exB K = true
  ne : (He.cT K ("law", none)).2 ≠ (He.cT K ("_law_event_right", none)).2
  it : fnIt K = fnItV
  gl : ∃ h : Heap, K.In h ∧ h.Ns mainGlobals mg
section
variable {K : PySem.W.Frag} {mg : Str → Option Value}
theorem tx_of {w : World} {h : Heap} (X : K.In h) (G : h.Ns mainGlobals mg) (c : SaysY w h K) : Tx K mg := ⟨c.t.d, c.more, c.ne, c.it, h, X, G⟩
theorem Tx.fa (T : Tx K mg) {f : He.Fa} (h : f ∈ faL) : f.ok K = true := T.d.facts h
theorem Tx.blt (T : Tx K mg) {x : Str} (h : He.Fa.free x ∈ faL) : mg x = none := by
  obtain ⟨h0, X, G⟩ := T.gl
  exact He.free_ok X G (T.fa h)
theorem Tx.bl (T : Tx K mg) {x : Str} (h : x ∈ bltNames ∨ x ∈ bltMore := by decide) : mg x = none := T.blt (by
  rcases h with h | h
  · exact List.mem_append_right _ (List.mem_append_left _ (List.mem_map_of_mem h))
  · exact List.mem_append_right _ (List.mem_append_right _ (List.mem_append_left _ (List.mem_map_of_mem h))))
theorem Tx.ex (T : Tx K mg) {x : Str} (h : x ∈ exNames := by decide) : mg x = some (.ref (He.ga K x)) := by
  obtain ⟨h0, X, G⟩ := T.gl
  exact He.glo_ok X G (T.fa (List.mem_append_left _ (List.mem_map_of_mem h)))
theorem memD {f : He.Fa} (h : f ∈ faD) : f ∈ faL := List.mem_append_right _ (List.mem_append_right _ (List.mem_append_right _ (List.mem_append_left _ h)))
theorem memE {f : He.Fa} (h : f ∈ faE) : f ∈ faL := List.mem_append_right _ (List.mem_append_right _ (List.mem_append_right _ (List.mem_append_right _ (List.mem_append_left _ h))))
theorem memF {f : He.Fa} (h : f ∈ faF) : f ∈ faL := List.mem_append_right _ (List.mem_append_right _ (List.mem_append_right _ (List.mem_append_right _ (List.mem_append_right _ (List.mem_append_left _ h)))))
theorem memH {f : He.Fa} (h : f ∈ faH fnL) : f ∈ faL := List.mem_append_right _ (List.mem_append_right _ (List.mem_append_right _ (List.mem_append_right _ (List.mem_append_right _ (List.mem_append_right _ (List.mem_append_right _ h))))))
/-- the class of words -/
abbrev wA (K : PySem.W.Frag) : Addr := He.ga K "Words"
theorem memDi {i : Nat} {f : He.Fa} (h : faD[i]? = some f) : f ∈ faD := List.mem_of_getElem? h
theorem Tx.mgWords (T : Tx K mg) : mg "Words" = some (.ref (wA K)) := by
  obtain ⟨h0, X, G⟩ := T.gl
  exact He.glo_ok X G (T.fa (memD (List.mem_of_getElem? (i := 0) rfl)))
theorem Tx.longest (T : Tx K mg) : ∃ t, mg "LONGEST_NAME" = some (.int 8 t) := by
  obtain ⟨h0, X, G⟩ := T.gl
  exact He.int_ok X G (T.fa (memD (List.mem_of_getElem? (i := 1) rfl)))
theorem Tx.most (T : Tx K mg) : ∃ t, mg "MOST_DIGITS" = some (.int 60 t) := by
  obtain ⟨h0, X, G⟩ := T.gl
  exact He.int_ok X G (T.fa (memD (List.mem_of_getElem? (i := 2) rfl)))
theorem Tx.letters (T : Tx K mg) : ∃ t, mg "LETTERS" = some (.str "abcdefghijklmnopqrstuvwxyz" t) := by
  obtain ⟨h0, X, G⟩ := T.gl
  exact He.str_ok X G (T.fa (memD (List.mem_of_getElem? (i := 3) rfl)))
theorem Tx.digits (T : Tx K mg) : ∃ t, mg "DIGITS" = some (.str "0123456789" t) := by
  obtain ⟨h0, X, G⟩ := T.gl
  exact He.str_ok X G (T.fa (memD (List.mem_of_getElem? (i := 4) rfl)))
theorem Tx.cl (T : Tx K mg) : Cls K (wA K) := He.cls_ok (T.fa (memD (List.mem_of_getElem? (i := 5) rfl)))
theorem Tx.mkr (T : Tx K mg) : Mk K (wA K) (He.ma K (wA K) "__init__") := He.mkr_ok (T.fa (memD (List.mem_of_getElem? (i := 6) rfl)))
theorem Tx.nWords (T : Tx K mg) : NoAttr K (wA K) "own_words" := He.noat_ok (T.fa (memE (List.mem_of_getElem? (i := 0) rfl)))
theorem Tx.nLine (T : Tx K mg) : NoAttr K (wA K) "own_line" := He.noat_ok (T.fa (memE (List.mem_of_getElem? (i := 1) rfl)))
theorem Tx.nField (T : Tx K mg) : NoAttr K (wA K) "own_field" := He.noat_ok (T.fa (memE (List.mem_of_getElem? (i := 2) rfl)))
theorem Tx.nSpot (T : Tx K mg) : NoAttr K (wA K) "own_spot" := He.noat_ok (T.fa (memE (List.mem_of_getElem? (i := 3) rfl)))
theorem Tx.meth (T : Tx K mg) {m : Str} (i : Nat) (h : faF[i]? = some (.meth "Words" m) := by rfl) : Meth K (wA K) m (He.ma K (wA K) m) := He.meth_ok (T.fa (memF (List.mem_of_getElem? h)))
theorem Tx.itT (T : Tx K mg) : Fx.ItT pw K (itA K) (itI K) (itCell K) (itCode K) "line" "field" (defArgs sIT) (defBody sIT) (defScope sIT) "InvalidText.__init__" := by
  obtain ⟨h1, h2⟩ := He.ba T.more
  exact itT_ok h1 (He.ba h2).1 T.it
theorem Tx.mgIT (T : Tx K mg) : mg "InvalidText" = some (.ref (itA K)) := T.ex (x := "InvalidText")
theorem Tx.xf (T : Tx K mg) : XfC K (itA K) := xfB_ok (He.ba (He.ba (He.ba T.more).2).2).1
theorem Tx.exc (T : Tx K mg) : ExcC K (itA K) := by
  obtain ⟨h1, h2⟩ := He.ba (He.ba (He.ba (He.ba T.more).2).2).2
  obtain ⟨a1, h3⟩ := He.ba h1
  obtain ⟨a2, h4⟩ := He.ba h3
  obtain ⟨a3, a4⟩ := He.ba h4
  exact ⟨T.xf.ga, T.xf.gg, T.xf.exC, T.xf.hdC, He.eqO_ok a1, He.eqO_ok a2, of_decide_eq_true a3, of_decide_eq_true a4⟩
theorem Tx.kit (T : Tx K mg) {x : Str} {b : Bool} (i : Nat) (h : kitL[i]? = some (x, b) := by rfl) : PySem.W.kitOne K (.ref (itA K)) (.ref (He.ga K x)) = some b := by
  obtain ⟨h1, _⟩ := He.ba (He.ba (He.ba (He.ba (He.ba T.more).2).2).2).2
  exact of_decide_eq_true (List.all_eq_true.mp h1 _ (List.mem_of_getElem? h))
theorem Tx.exmIT (T : Tx K mg) : PySem.W.exmOne K (.ref (itA K)) (.ref (itA K)) = some true := He.exm_ok (T.fa (f := .exm "InvalidText" "InvalidText" true)
  (List.mem_append_right _ (List.mem_append_right _ (List.mem_append_right _ (List.mem_append_right _ (List.mem_append_right _ (List.mem_append_right _ (List.mem_append_left _ (List.mem_of_getElem? (i := 1) rfl)))))))))
theorem Tx.tups (T : Tx K mg) : tupB K "GUARD_WORDS" ["on", "off"] = true ∧ tupB K "HEADS" ["kind", "asker"] = true ∧ tupB K "EVENT_WORDS" ["came", "guard", "note"] = true ∧ PySem.W.exmOne K (.ref (itA K)) (.ref (He.ga K "LetterError")) = some true := by
  obtain ⟨_, h2⟩ := He.ba (He.ba (He.ba (He.ba (He.ba T.more).2).2).2).2
  obtain ⟨a1, h3⟩ := He.ba h2
  obtain ⟨a2, h4⟩ := He.ba h3
  obtain ⟨a3, a4⟩ := He.ba h4
  exact ⟨a1, a2, a3, of_decide_eq_true a4⟩
theorem Tx.tup (T : Tx K mg) {x : Str} {ss : List Str} (h : tupB K x ss = true) : mg x = some (.ref (He.ga K x)) ∧ ∀ H, SqT K H (He.ga K x) (ss.map V.str) := by
  obtain ⟨h0, X, G⟩ := T.gl
  obtain ⟨e, q⟩ := tupB_ok h
  exact ⟨PySem.W.mg_of X G e, q⟩
/-- a def of the text -/
theorem Tx.fn (T : Tx K mg) (i j : Nat) {x : Str} (h : fnL[i]? = some (fnD x j) := by rfl) : ∃ fd, mg x = some (.ref (He.ga K x)) ∧ FunD K x x (defArgs (topS j)) (defBody (topS j)) (defScope (topS j)) [] [] (He.ga K x) fd := by
  obtain ⟨fd, F⟩ := T.d.def_ i (d := fnD x j) h
  obtain ⟨h0, X, G⟩ := T.gl
  refine ⟨fd, He.glo_ok X G (T.fa (memH ?_)), F⟩
  exact List.mem_map.mpr ⟨fnD x j, List.mem_filter.mpr ⟨List.mem_of_getElem? h, rfl⟩, rfl⟩
/-- a method -/
theorem Tx.mt (T : Tx K mg) (i j : Nat) {m q : Str} {dv : List He.Dv} (h : fnL[i]? = some (mtD m q j dv) := by rfl) :
    ∃ fd, FunD K m q (defArgs (inClass (topS 29) j)) (defBody (inClass (topS 29) j)) (defScope (inClass (topS 29) j)) (dv.map (He.Dv.v K)) [] (He.ma K (wA K) m) fd := T.d.def_ i (d := mtD m q j dv) h
end
end Fl

-- KP
/-! promises, calls by name, frames, plain comprehensions -/
namespace Fl
open PySem PySem.Spec PyProof.Rows L2
/-! ### a promise: for an a with the arguments f a and pre a of the heap; post: what is given back -/
def Pr {α : Type} (f : α → List V) (pre : α → Hp → Prop) (post : α → Hp → V → Hp → Prop) : Sp := fun vs H Q _ => ∃ a, vs = f a ∧ pre a H ∧ ∀ r H', post a H r H' → Q r H'
/-- the same of a def that may raise -/
def PrE {α : Type} (f : α → List V) (pre : α → Hp → Prop) (post : α → Hp → V → Hp → Prop) (exc : α → Hp → Value → Option Addr → Hp → Prop) : Sp := fun vs H Q E =>
  ∃ a, vs = f a ∧ pre a H ∧ (∀ r H', post a H r H' → Q r H') ∧ ∀ c d H', exc a H c d H' → E c d H'
theorem Pr.use {α : Type} {f : α → List V} {pre : α → Hp → Prop} {post : α → Hp → V → Hp → Prop} {vs : List V} {H : Hp} {Q : VK} {E : XK} (a : α) (e : vs = f a) (h : pre a H) (q : ∀ r H', post a H r H' → Q r H') : Pr f pre post vs H Q E := ⟨a, e, h, q⟩
theorem PrE.use {α : Type} {f : α → List V} {pre : α → Hp → Prop} {post : α → Hp → V → Hp → Prop} {exc : α → Hp → Value → Option Addr → Hp → Prop} {vs : List V} {H : Hp} {Q : VK} {E : XK} (a : α) (e : vs = f a) (h : pre a H) (q : ∀ r H', post a H r H' → Q r H')
    (x : ∀ c d H', exc a H c d H' → E c d H') : PrE f pre post exc vs H Q E := ⟨a, e, h, q, x⟩
/-! ### defs by name -/
structure OkF (P : Program) (w : World) (K : PySem.W.Frag) (mg : Str → Option Value) (base : Heap) (CX : CXT) (k : Nat) (x : Str) (ps : List Str) (sp : Sp) : Prop where
  ex : ∃ fd, mg x = some (.ref (He.ga K x)) ∧ PySem.W.keepIn K (.ref (He.ga K x)) = true ∧ Binds K fd ps [] ∧ FnOk P w K mg base CX k (He.ga K x) fd ps sp
structure OkM (P : Program) (w : World) (K : PySem.W.Frag) (mg : Str → Option Value) (base : Heap) (CX : CXT) (k : Nat) (m : Str) (ps : List Str) (sp : Sp) : Prop where
  ex : ∃ fd, Cls K (wA K) ∧ Meth K (wA K) m (He.ma K (wA K) m) ∧ Binds K fd ps [] ∧ FnOk P w K mg base CX k (He.ma K (wA K) m) fd ps sp
section
variable {P : Program} {w : World} {K : PySem.W.Frag} {mg : Str → Option Value} {base : Heap} {CX : CXT} {k : Nat} {N ps : List Str} {sp : Sp}
theorem okF (T : Tx K mg) (i j : Nat) {x : Str} (h : fnL[i]? = some (fnD x j)) (S : FnScope N ps (defScope (topS j)))
    (hb : ∀ (kV doc pm : Value) (an : Option Addr) (cdv ct : Value) (us : List Value), us.length = ps.length → bindArgs (PySem.W.fnOf x x (defArgs (topS j)) (defBody (topS j)) (defScope (topS j)) .none kV doc pm an cdv ct) ⟨us, []⟩ = pure (ps.zip us))
    (len : ∀ vs H Q E, sp vs H Q E → vs.length = ps.length)
    (hbody : ∀ (cdv : Value) (A : Around) (outer : List Env) (s : Shared) (H : Hp) (vs : List V) (Q : VK) (E : XK), Room k (A.deeper (envOfC x (defScope (topS j)) s.heap.objs.size (He.ga K x) cdv)) → sp vs H Q E →
      ∃ t, PSs (cxOf CX P w K mg base N x (defScope (topS j)) (He.ga K x) cdv A outer s H E) (defBody (topS j)) t ∧ t { nx := fun _ H' => Q .non H', rt := Q } (start N vs) H) : OkF P w K mg base CX (k + 1) x ps sp := by
  obtain ⟨fd, hm, F⟩ := T.fn i j h
  exact ⟨fd, hm, F.kp, F.bindsN hb, F.ok S len hbody⟩
theorem okM (T : Tx K mg) (i j l : Nat) {m q : Str} (h : fnL[i]? = some (mtD m q j [])) (hl : faF[l]? = some (.meth "Words" m)) (S : FnScope N ps (defScope (inClass (topS 29) j)))
    (hb : ∀ (kV doc pm : Value) (an : Option Addr) (cdv ct : Value) (us : List Value), us.length = ps.length → bindArgs (PySem.W.fnOf m q (defArgs (inClass (topS 29) j)) (defBody (inClass (topS 29) j)) (defScope (inClass (topS 29) j)) .none kV doc pm an cdv ct) ⟨us, []⟩ = pure (ps.zip us))
    (len : ∀ vs H Q E, sp vs H Q E → vs.length = ps.length)
    (hbody : ∀ (cdv : Value) (A : Around) (outer : List Env) (s : Shared) (H : Hp) (vs : List V) (Q : VK) (E : XK), Room k (A.deeper (envOfC q (defScope (inClass (topS 29) j)) s.heap.objs.size (He.ma K (wA K) m) cdv)) → sp vs H Q E →
      ∃ t, PSs (cxOf CX P w K mg base N q (defScope (inClass (topS 29) j)) (He.ma K (wA K) m) cdv A outer s H E) (defBody (inClass (topS 29) j)) t ∧ t { nx := fun _ H' => Q .non H', rt := Q } (start N vs) H) : OkM P w K mg base CX (k + 1) m ps sp := by
  obtain ⟨fd, F⟩ := T.mt i j h
  exact ⟨fd, T.cl, T.meth l hl, F.bindsN hb, F.ok S len hbody⟩
theorem OkF.mono {l : Nat} (G : OkF P w K mg base CX k x ps sp) (h : k ≤ l) : OkF P w K mg base CX l x ps sp := by
  obtain ⟨fd, a, b, c, d⟩ := G.ex
  exact ⟨fd, a, b, c, d.mono h⟩
theorem OkM.mono {l : Nat} (G : OkM P w K mg base CX k x ps sp) (h : k ≤ l) : OkM P w K mg base CX l x ps sp := by
  obtain ⟨fd, a, b, c, d⟩ := G.ex
  exact ⟨fd, a, b, c, d.mono h⟩
end
section
variable {X : Cx} {CX : CXT} {k : Nat} {x m : Str} {ps : List Str} {sp : Sp} {E : XK} {e o : Expr} {es : List Expr} {p pos apos : Pos} {t : TA} {ta : TE}
def tFn (sp : Sp) (E : XK) (t : TA) : TE := fun σ H Q => t σ H fun vs H1 => sp vs H1 Q E
theorem pe_fn (G : OkF X.prog X.w X.K X.mg X.base CX k x ps sp) (hr : Room k X.A) (hx : Passes CX X E) (ha : PA X (e :: es) t) (hg : Gl X x := by rfl) (hdb : (x == ("__debug__" : Str)) = false := by decide)
    (he : starEach (e :: es) X.env = (false, eval e X.env) :: starEach es X.env := by rfl) (hpl : (backTo pos (starEach es X.env)).any (·.1) = false := by rfl) : PE X (.Call (.Name x p) (e :: es) [] pos) (tFn sp E t) := by
  obtain ⟨fd, hm, hk, hb, F⟩ := G.ex
  have z := pe_call (p := p) (pos := pos) F hr hg hm hk hb .nil hx ha hdb he hpl
  refine ⟨fun pins s σ H Q I h => z.run pins s σ H Q I ?_⟩
  have e1 : (fun (vs : List V) (H1 : Hp) => sp (vs ++ []) H1 Q E) = fun vs H1 => sp vs H1 Q E := by
    funext vs H1
    rw [List.append_nil]
  show t σ H fun vs H1 => sp (vs ++ []) H1 Q E
  rw [e1]
  exact h
theorem pe_fnS {W : L2.St → XK} (G : OkF X.prog X.w X.K X.mg X.base CX k x ps sp) (hr : Room k X.A) (hx : ∀ σ, PassesAt CX X σ (W σ)) (ha : PA X (e :: es) t) (hg : Gl X x := by rfl) (hdb : (x == ("__debug__" : Str)) = false := by decide)
    (he : starEach (e :: es) X.env = (false, eval e X.env) :: starEach es X.env := by rfl) (hpl : (backTo pos (starEach es X.env)).any (·.1) = false := by rfl) : PE X (.Call (.Name x p) (e :: es) [] pos) (tCallS sp W t) := by
  obtain ⟨fd, hm, hk, hb, F⟩ := G.ex
  exact pe_callS F hr hg hm hk hb hx ha hdb he hpl
theorem pe_fn0 (G : OkF X.prog X.w X.K X.mg X.base CX k x ps sp) (hr : Room k X.A) (hx : Passes CX X E) (hg : Gl X x := by rfl) (hdb : (x == ("__debug__" : Str)) = false := by decide) : PE X (.Call (.Name x p) [] [] pos) (tFn sp E tNil) := by
  obtain ⟨fd, hm, hk, hb, F⟩ := G.ex
  exact pe_call0 F hr hg hm hk hb .nil hx hdb
end
/-! ### frames -/
/-- all but dicts stay -/
def ExtD (H H' : Hp) : Prop := ∀ b o, H b = some o → (∀ kvs, o ≠ .dK kvs) → H' b = some o
theorem ExtD.refl (H : Hp) : ExtD H H := fun _ _ h _ => h
theorem ExtD.trans {H H1 H2 : Hp} (a : ExtD H H1) (b : ExtD H1 H2) : ExtD H H2 := fun c o h n => b c o (a c o h n) n
theorem ExtD.of {H H' : Hp} (e : Same H H') : ExtD H H' := fun b o h _ => e b o h
theorem same_upd {H : Hp} {p : Addr} {o : HO} (n : H p = none) : Same H (upd H p o) := fun b u h => by rw [upd_ne (ne_of_none h n)]; exact h
/-! ### joining of ways -/
theorem cut_e {te : TE} {σ : L2.St} {H : Hp} {Q : VK} (R : VK) (h1 : ∀ Q' : VK, (∀ v H1, R v H1 → Q' v H1) → te σ H Q') (h2 : ∀ v H1, R v H1 → Q v H1) : te σ H Q := h1 Q h2
theorem seq_asg {te : TE} {i : Nat} {u : TS} {D : Ends} {σ : L2.St} {H : Hp} (R : VK) (h1 : ∀ Q' : VK, (∀ v H1, R v H1 → Q' v H1) → te σ H Q') (h2 : ∀ v H1, R v H1 → u D (σ.set i (some v)) H1) : tSeq (tAsg te (gName i)) u D σ H := h1 _ h2
theorem seq_cut {t u : TS} {D : Ends} {σ : L2.St} {H : Hp} (R : L2.St → Hp → Prop) (h1 : ∀ nx' : L2.St → Hp → Prop, (∀ σ' H', R σ' H' → nx' σ' H') → t { D with nx := nx' } σ H) (h2 : ∀ σ' H', R σ' H' → u D σ' H') : tSeq t u D σ H := h1 _ h2
theorem ite_t {b : Bool} {A B : Prop} (hb : b = true) (h : A) : if b = true then A else B := by rw [if_pos hb]; exact h
theorem ite_f {b : Bool} {A B : Prop} (hb : b = false) (h : B) : if b = true then A else B := by rw [if_neg (by rw [hb]; decide)]; exact h
/-! ### a plain comprehension: each turn leaves the rest of the heap as it was -/
section
variable {K : PySem.W.Frag} {a : Addr} {xs : List V} {g : TG} {tt : TT} {te : TE} {vs : List Nat} {σ : L2.St} {H1 : Hp} {D : Addr} {Qd : Hp → Prop}
theorem fm_take {α β : Type} (f : α → Option β) {xs : List α} {i : Nat} {x : α} (e : xs[i]? = some x) : (xs.take (i + 1)).filterMap f = (xs.take i).filterMap f ++ (f x).toList := by
  rw [List.take_succ, e, List.filterMap_append]
  cases h : f x <;> simp [h]
/-- all tuples stay (they never change) -/
def TupX (H H' : Hp) : Prop := ∀ b xs, Rd H b (.tup xs) → Rd H' b (.tup xs)
theorem TupX.refl (H : Hp) : TupX H H := fun _ _ h => h
theorem TupX.trans {H H1 H2 : Hp} (a : TupX H H1) (b : TupX H1 H2) : TupX H H2 := fun c o h => b c o (a c o h)
structure Fram (Rl : Hp → Hp → Prop) : Prop where
  rr : ∀ H, Rl H H
  rt : ∀ {H H' H'' : Hp}, Rl H H' → Rl H' H'' → Rl H H''
  rs : ∀ {H H' : Hp} {b : Addr} {l : List V}, Rl H H' → H b = some (.lst l) → H' b = some (.lst l)
  ru : ∀ {H H' : Hp} {b : Addr} {o : HO}, H b = none → Rl H H' → Rl H (upd H' b o)
  rx : ∀ {H H' : Hp}, Rl H H' → TupX H H'
theorem fram_same : Fram Same := ⟨Same.refl, Same.trans, fun r h => r _ _ h, fun {H H' b' o'} n r b o h => by rw [upd_ne (ne_of_none h n)]; exact r b o h, fun r b xs h => h.elim (fun h => .inl (r b _ h)) fun ⟨o, h⟩ => .inr ⟨o, r b _ h⟩⟩
theorem fram_extD : Fram ExtD := ⟨ExtD.refl, ExtD.trans, fun r h => r _ _ h fun _ z => (nomatch z), fun {H H' b' o'} n r b o h z => by rw [upd_ne (ne_of_none h n)]; exact r b o h z, fun r b xs h => h.elim (fun h => .inl (r b _ h fun _ z => (nomatch z))) fun ⟨o, h⟩ => .inr ⟨o, r b _ h fun _ z => (nomatch z)⟩⟩
theorem tupX_upd {H : Hp} {b : Addr} {o : HO} (h : ∀ xs, ¬ Rd H b (.tup xs)) : TupX H (upd H b o) := fun c xs e => by
  have n : c ≠ b := fun q => h xs (q ▸ e)
  rcases e with e | ⟨u, e⟩
  · exact .inl (by rw [upd_ne n]; exact e)
  · exact .inr ⟨u, by rw [upd_ne n]; exact e⟩
theorem tupX_lst {H : Hp} {b : Addr} {l l' : List V} (h : H b = some (.lst l)) : TupX H (upd H b (.lst l')) := tupX_upd fun xs e => by
  rcases e with e | ⟨u, e⟩ <;> rw [h] at e <;> cases e
theorem tupX_new {H : Hp} {b : Addr} {o : HO} (h : H b = none) : TupX H (upd H b o) := tupX_upd fun xs e => by
  rcases e with e | ⟨u, e⟩ <;> rw [h] at e <;> cases e
theorem tupX_same {H H' : Hp} (r : Same H H') : TupX H H' := fram_same.rx r
theorem tupX_extD {H H' : Hp} (r : ExtD H H') : TupX H H' := fram_extD.rx r
theorem sqT_tupX {K : PySem.W.Frag} {H H' : Hp} {a : Addr} {xs : List V} (e : TupX H H') (h : SqT K H a xs) : SqT K H' a xs := by
  rcases h with h | h
  · exact .inl (e _ _ h)
  · exact .inr h
/-- one turn of a comprehension: Zk takes what is kept, Zs what is left out; Ip of the made list ahead of the turn, In behind it -/
abbrev LcTurn (g : TG) (tt : TT) (te : TE) (vs : List Nat) (σ : L2.St) (Rl : Hp → Hp → Prop) (acc : List V) (In : List V → Hp → Prop) (x : V) (H0 H : Hp) : Prop := ∀ (Zk : VK) (Zs : Hp → Prop), (∀ y H4, Rl H0 H4 → In (acc ++ [y]) H4 → Zk y H4) → (∀ H3, Rl H0 H3 → In acc H3 → Zs H3) →
  g x (wipe σ vs) H fun σ2 H2 => wipe σ2 vs = wipe σ vs ∧ tt σ2 H2 fun b H3 => if b = true then te σ2 H3 Zk else Zs H3
theorem lcw {Rl : Hp → Hp → Prop} {J : It} {n : Nat} {G : Hp → Prop} {Y : Nat → Hp → V → Hp → Prop} (wk : Walk J n G Y) (F : Fram Rl) (hD : H1 D = none) (hz : n ≤ sizeLine) (hG : ∀ H, Rl H1 H → G H) (I : Nat → List V → Hp → Prop) (im : ∀ i acc H H', TupX H H' → I i acc H → I i acc H') (h0 : I 0 [] H1)
    (hs : ∀ i x acc H H', i < n → Rl H1 H → Y i H x H' → I i acc H → H D = some (.lst acc) → LcTurn g tt te vs σ Rl acc (I (i + 1)) x H H') (hd : ∀ H acc, Rl H1 H → H D = some (.lst acc) → I n acc H → Qd H) :
    ∃ W : Nat → Nat → Hp → Prop, (∃ m, W 0 m (upd H1 D (.lst []))) ∧ ∀ i m H, W i m H →
      (J.stop i H ∧ Qd H) ∨ (J.go i H ∧ ∃ Nx : Hp → Prop, (∀ H', Nx H' → ∃ m', m' < m ∧ W (i + 1) m' H') ∧ ∀ x H', J.yld i H x H' → g x (wipe σ vs) H' fun σ2 H2 => wipe σ2 vs = wipe σ vs ∧ tt σ2 H2 fun b H3 =>
        if b = true then te σ2 H3 fun y H4 => ∃ acc, H4 D = some (.lst acc) ∧ acc.length < sizeLine ∧ Nx (upd H4 D (.lst (acc ++ [y]))) else Nx H3) := by
  refine lc_it wk (fun i H => Rl H1 H ∧ ∃ acc, H D = some (.lst acc) ∧ acc.length ≤ i ∧ I i acc H) ⟨F.ru hD (F.rr _), [], upd_same, Nat.le_refl _, im _ _ _ _ (tupX_new hD) h0⟩ (fun i H _ p => hG H p.1) (fun i x H H' hi p y => ?_) (fun H p => ?_)
  · obtain ⟨r0, acc, hacc, hlen, hI⟩ := p
    refine hs i x acc H H' hi r0 y hI hacc _ _ (fun z H4 r e => ⟨acc, F.rs r hacc, by omega, F.ru hD (F.rt r0 r), acc ++ [z], upd_same, by simp; omega, im _ _ _ _ (tupX_lst (F.rs r hacc)) e⟩) (fun H3 r e => ⟨F.rt r0 r, acc, F.rs r hacc, by omega, e⟩)
  · obtain ⟨r0, acc, hacc, hlen, hI⟩ := p
    exact hd H acc r0 hacc hI
/-- no test: all is kept -/
theorem yes_turn {σ : L2.St} {H : Hp} {A B : Hp → Prop} (h : A H) : tYes σ H fun b H3 => if b = true then A H3 else B H3 := by
  show if true = true then A H else B H
  rw [if_pos rfl]
  exact h
/-- one turn where what is kept is told by f -/
abbrev LcF (g : TG) (tt : TT) (te : TE) (vs : List Nat) (σ : L2.St) (Rl : Hp → Hp → Prop) (f : V → Option V) (x : V) (H : Hp) : Prop := ∀ (Zk : VK) (Zs : Hp → Prop), (∀ y H4, Rl H H4 → f x = some y → Zk y H4) → (∀ H3, Rl H H3 → f x = none → Zs H3) →
  g x (wipe σ vs) H fun σ2 H2 => wipe σ2 vs = wipe σ vs ∧ tt σ2 H2 fun b H3 => if b = true then te σ2 H3 Zk else Zs H3
theorem lcf {Rl : Hp → Hp → Prop} {J : It} {G : Hp → Prop} {xs : List V} (wk : Walk J xs.length G (YAt xs)) (F : Fram Rl) (hD : H1 D = none) (hz : xs.length ≤ sizeLine) (hG : ∀ H, Rl H1 H → G H) (f : V → Option V) (hs : ∀ x H, x ∈ xs → Rl H1 H → LcF g tt te vs σ Rl f x H)
    (hd : ∀ H, Rl H1 H → H D = some (.lst (xs.filterMap f)) → Qd H) :
    ∃ W : Nat → Nat → Hp → Prop, (∃ m, W 0 m (upd H1 D (.lst []))) ∧ ∀ i m H, W i m H →
      (J.stop i H ∧ Qd H) ∨ (J.go i H ∧ ∃ Nx : Hp → Prop, (∀ H', Nx H' → ∃ m', m' < m ∧ W (i + 1) m' H') ∧ ∀ x H', J.yld i H x H' → g x (wipe σ vs) H' fun σ2 H2 => wipe σ2 vs = wipe σ vs ∧ tt σ2 H2 fun b H3 =>
        if b = true then te σ2 H3 fun y H4 => ∃ acc, H4 D = some (.lst acc) ∧ acc.length < sizeLine ∧ Nx (upd H4 D (.lst (acc ++ [y]))) else Nx H3) := by
  refine lcw wk F hD hz hG (fun i acc _ => acc = (xs.take i).filterMap f) (fun _ _ _ _ _ h => h) (by simp) (fun i x acc H H' hi r y hI hacc => ?_) (fun H acc r hacc hI => hd H r (by rw [hacc, hI, List.take_length]))
  obtain ⟨rfl, ex⟩ := y
  refine fun Zk Zs hk hz' => hs x _ (List.mem_of_getElem? ex) r Zk Zs (fun y H4 r4 e => hk y H4 r4 ?_) fun H3 r3 e => hz' H3 r3 ?_
  · rw [fm_take f ex, e, hI] <;> rfl
  · rw [fm_take f ex, e, hI]
    simp
end
end Fl

-- KF1
/-! is_integer, is_count, is_name -/
namespace Fl
open PySem PySem.Spec PyProof.Rows L2 TL
/-! ### is_integer, is_count -/
def ov : Option Int → V
  | none => .non
  | some i => .int i
abbrev spIsInteger : Sp := Pr (fun o : Option Int => [ov o]) (fun _ _ => True) (fun o H r H' => r = .bl o.isSome ∧ H' = H)
def cntB : Option Int → Bool
  | none => false
  | some i => decide (1 ≤ i)
abbrev spIsCount : Sp := Pr (fun o : Option Int => [ov o]) (fun _ _ => True) (fun o H r H' => r = .bl (cntB o) ∧ H' = H)
abbrev letL : List Nat := tl "abcdefghijklmnopqrstuvwxyz"
def nameB (z : Str) : Bool := decide (1 ≤ z.length) && (decide (z.length ≤ 8) && (tl z).all fun c => decide (c ∈ letL))
abbrev spIsName : Sp := Pr (fun z : Str => [.str z]) (fun z _ => z.length ≤ sizeLine) (fun z H r H' => r = .bl (nameB z) ∧ Same H H')
section
variable {P : Program} {w : World} {K : PySem.W.Frag} {mg : Str → Option Value} {base : Heap}
theorem tyO (H : Hp) : ∀ o : Option Int, ∃ t b1 b2, TyX K H (ov o) t ∧ PySem.W.kitOne K t (.type "int") = some b1 ∧ PySem.W.kitOne K t (.type "bool") = some b2 ∧ b1 = o.isSome ∧ b2 = false
  | none => ⟨_, _, _, .base .non, kit_ty (b := "int") (r := false) (by decide +kernel), kit_ty (b := "bool") (r := false) (by decide +kernel), rfl, rfl⟩
  | some i => ⟨_, _, _, .base (.int i), kit_ty (b := "int") (r := true) (by decide +kernel), kit_ty (b := "bool") (r := false) (by decide +kernel), rfl, rfl⟩
theorem ok_is_integer (T : Tx K mg) : OkF P w K mg base CX0 1 "is_integer" ["thing"] spIsInteger := by
  have sc : FnScope ["thing"] ["thing"] (defScope (topS 17)) := ⟨rfl, rfl, rfl, by decide +kernel, rfl, by decide +kernel, by decide +kernel⟩
  refine okF T 0 17 rfl sc (fun _ _ _ _ _ _ us hl => match us, hl with | [_], _ => rfl) (fun vs H Q E ⟨_, e, _⟩ => by rw [e] <;> rfl) fun cdv A outer s H vs Q E hr ⟨o, e, _, hQ⟩ => ?_
  subst e
  refine ⟨_, PSs.nox (pss_one (ps_ret (pe_and (pe_callB call_isi rfl (T.bl (x := "isinstance")) (by decide +kernel) (pa_cons (pv 0) (pa_cons (pe_bltn (v := .ty "int") rfl (T.bl (x := "int")) (by decide +kernel) rfl) pa_nil))) (pe_one (pe_not (pe_callB call_isi rfl (T.bl (x := "isinstance")) (by decide +kernel) (pa_cons (pv 0) (pa_cons (pe_bltn (v := .ty "bool") rfl (T.bl (x := "bool")) (by decide +kernel) rfl) pa_nil)))))))), ?_⟩
  obtain ⟨t, b1, b2, ht, h1, h2, rfl, rfl⟩ := tyO (K := K) H o
  refine ⟨_, rfl, _, _, _, _, _, rfl, .ty _, ht, h1, _, rfl, ?_⟩
  cases o with
  | none => exact hQ _ _ ⟨rfl, rfl⟩
  | some i => exact ⟨_, rfl, _, _, _, _, _, rfl, .ty _, ht, h2, _, rfl, hQ _ _ ⟨rfl, rfl⟩⟩
theorem ok_is_count (T : Tx K mg) : OkF P w K mg base CX0 2 "is_count" ["thing"] spIsCount := by
  have sc : FnScope ["thing"] ["thing"] (defScope (topS 18)) := ⟨rfl, rfl, rfl, by decide +kernel, rfl, by decide +kernel, by decide +kernel⟩
  refine okF T 1 18 rfl sc (fun _ _ _ _ _ _ us hl => match us, hl with | [_], _ => rfl) (fun vs H Q E ⟨_, e, _⟩ => by rw [e] <;> rfl) fun cdv A outer s H vs Q E hr ⟨o, e, _, hQ⟩ => ?_
  subst e
  refine ⟨_, PSs.nox (pss_one (ps_ret (pe_and (pe_fn (ok_is_integer T) (hr.mono (by decide)) pass0 (pa_cons (pv 0) pa_nil)) (pe_one (pe_cmpR op_ge (pv 0) pe_int (nomark _)))))), ?_⟩
  refine ⟨_, rfl, o, rfl, trivial, fun r H' h => ?_⟩
  obtain ⟨rfl, rfl⟩ := h
  cases o with
  | none => exact ⟨_, rfl, hQ _ _ ⟨rfl, rfl⟩⟩
  | some i => exact ⟨_, rfl, _, rfl, _, _, rfl, rfl, hQ _ _ ⟨rfl, rfl⟩⟩
theorem ok_is_name (T : Tx K mg) : OkF P w K mg base CX0 1 "is_name" ["thing"] spIsName := by
  have sc : FnScope ["thing", "sign"] ["thing"] (defScope (topS 19)) := ⟨rfl, rfl, rfl, by decide +kernel, rfl, by decide +kernel, by decide +kernel⟩
  obtain ⟨tk, hLET⟩ := T.letters
  obtain ⟨tk2, hLON⟩ := T.longest
  refine okF T 2 19 rfl sc (fun _ _ _ _ _ _ us hl => match us, hl with | [_], _ => rfl) (fun vs H Q E ⟨_, e, _⟩ => by rw [e] <;> rfl) fun cdv A outer s H vs Q E hr ⟨z, e, hz, hQ⟩ => ?_
  subst e
  refine ⟨_, PSs.nox (pss_cons (ps_if (PW.pt (pw_or (pt_not (pt_val (pe_callB call_isi rfl (T.bl (x := "isinstance")) (by decide +kernel) (pa_cons (pv 0) (pa_cons (pe_bltn (v := .ty "str") rfl (T.bl (x := "str")) (by decide +kernel) rfl) pa_nil))))) (pw_or1 (pt_not (pt_chain op_le op_le pe_int (pe_callB call_len rfl (T.bl (x := "len")) (by decide +kernel) (pa_cons (pv 0) pa_nil)) (pe_glob (v := .int 8) rfl hLON ⟨_, rfl⟩)))))) (pss_one (ps_ret pe_bl)) pss_nil)
 (pss_one (ps_ret (pe_callB (cr_all rfl) rfl (T.bl (x := "all")) (by decide +kernel) (pa_cons (pe_lc (own := [("sign", 1)]) (g := gName 1) (by rfl) sc.nd (pi_str (pv 0)) (blkOk_by (own := [("sign", 1)]) (N := ["thing", "sign"]) (sc := (defScope (topS 19))) (by decide +kernel)) (fun _ _ _ _ _ => (pg_name (i := 1) sc.nd rfl (.inl rfl) (hf := .inr rfl))) (fun _ _ _ _ _ => pts_nil) (fun _ _ _ _ _ => (pe_cmpR op_in_sign (pv 1) (pe_glob (v := .str "abcdefghijklmnopqrstuvwxyz") rfl hLET ⟨_, rfl⟩) (by rfl)))) pa_nil))))), ?_⟩
  refine ⟨_, rfl, _, _, _, _, _, rfl, .ty _, .base (.str z), kit_ty (b := "str") (r := true) (by decide +kernel), _, rfl, ?_⟩
  refine iteF ⟨_, rfl, _, _, rfl, ⟨hz, rfl⟩, _, _, rfl, rfl, _, rfl, ?_⟩
  have fail : nameB z = false → Q (.bl false) H := fun h => hQ _ _ ⟨by rw [h], Same.refl _⟩
  refine ite2 (fun h1 => ?_) (fun h1 => ?_)
  · have l1 : (1 : Int) ≤ (z.length : Nat) := of_decide_eq_true h1
    refine ⟨_, _, rfl, rfl, _, rfl, ?_⟩
    by_cases h2 : z.length ≤ 8
    · have e2 : decide (((z.length : Nat) : Int) ≤ 8) = true := decide_eq_true (by omega)
      rw [e2]
      refine iteF ⟨_, rfl, z, rfl, fun D hD => ?_⟩
      refine lcw (walk_str (z := z)) fram_same hD (by show z.cps.size ≤ _; exact hz) (fun _ _ => trivial) (fun i acc _ => acc = ((tl z).take i).map fun c => V.bl (decide (c ∈ letL))) (fun _ _ _ _ _ h => h) (by simp) (fun i x acc H' H2 hi r y hI hacc => ?_) (fun H' acc r hacc hI => ?_)
      · obtain ⟨rfl, c, hc, rfl⟩ := y
        intro Zk Zs hk _
        refine ⟨rfl, ?_⟩
        show if true = true then _ else Zs H2
        rw [if_pos rfl]
        refine ⟨_, rfl, c, _, rfl, rfl, hk _ _ (Same.refl _) ?_⟩
        have hc2 : (tl z)[i]? = some c := by simpa [tl] using hc
        rw [hI, List.take_succ, hc2, List.map_append]
        rfl
      · have hl : (tl z).length = z.cps.size := by simp [tl]
        rw [← hl, List.take_length] at hI
        refine ⟨D, (tl z).map fun c => decide (c ∈ letL), rfl, SqL.of (by rw [hacc, hI, List.map_map]; rfl), hQ _ _ ⟨?_, r⟩⟩
        unfold nameB
        rw [decide_eq_true h2, decide_eq_true (show 1 ≤ z.length by omega), List.all_map]
        rfl
    · have e2 : decide (((z.length : Nat) : Int) ≤ 8) = false := decide_eq_false (by omega)
      rw [e2]
      refine iteT (fail ?_)
      unfold nameB
      rw [decide_eq_false h2]
      simp
  · have l1 : ¬ (1 : Int) ≤ (z.length : Nat) := fun h => h1 (decide_eq_true h)
    refine ⟨_, rfl, iteT (fail ?_)⟩
    unfold nameB
    rw [decide_eq_false (by omega)]
    rfl
end
end Fl

-- KM
/-! what the words can be: plain functions of texts -/
namespace Fl
open PySem PySem.Spec PyProof.Rows L2 TL
abbrev digL : List Nat := tl "0123456789"
theorem digL_iff {c : Nat} : c ∈ digL ↔ 48 ≤ c ∧ c ≤ 57 := by
  have e : digL = [48, 49, 50, 51, 52, 53, 54, 55, 56, 57] := by decide +kernel
  rw [e]
  simp only [List.mem_cons, List.not_mem_nil, or_false]
  omega
def digB (z : Str) : Bool := (tl z).all fun c => decide (c ∈ digL)
def hd0 (z : Str) : Bool := decide ((tl z).head? = some 48)
def numB (z : Str) : Bool := decide (1 ≤ z.length) && (decide (z.length ≤ 60) && (digB z && (decide (z = ("0" : Str)) || !hd0 z)))
def valN (z : Str) : Int := ((NumText.digitsVal (tl z) : Nat) : Int)
def numO (z : Str) : Option Int := if numB z = true then some (valN z) else none
def cntO (z : Str) : Option Int := if cntB (numO z) = true then numO z else none
def risB (ss : List Str) : Bool := (ss.zip ss.tail).all fun p => decide (tl p.1 < tl p.2)
abbrev comS : Str := ","
abbrev spcS : Str := " "
def prts (z : Str) : List Str := Txt.split z comS
def wds (z : Str) : List Str := Txt.split z spcS
def tblP (z : Str) : List Str := if z = ("-" : Str) then [] else prts z
def tblB (z : Str) : Bool := (tblP z).all nameB && risB (tblP z)
def nmsB (z : Str) : Bool := (prts z).all fun x => cntB (cntO x)
theorem digits_int {z : Str} (h1 : 1 ≤ z.length) (h2 : z.length ≤ 60) (hd : digB z = true) : intText? z = some (valN z) := by
  refine PySem.intText_digits (fun c hc => digL_iff.mp (of_decide_eq_true (List.all_eq_true.mp hd c hc))) (fun e => ?_) (by omega)
  have e2 : (tl z).length = 0 := by rw [show tl z = [] from e]; rfl
  rw [← len_tl] at e2
  omega
theorem cntO_some {z : Str} : (cntO z).isSome = cntB (cntO z) := by
  unfold cntO
  by_cases h : cntB (numO z) = true
  · rw [if_pos h, h]
    cases e : numO z with
    | none =>
      rw [e] at h
      cases h
    | some i => rfl
  · rw [if_neg h] <;> rfl
theorem spl_count (S l acc : List Nat) (k : Nat) : (spl S k acc l).length ≤ l.length + 1 := by
  induction l generalizing k acc with
  | nil => rw [spl_nil]; simp
  | cons c r ih =>
    cases k with
    | succ k =>
      rw [spl_pass]
      have := ih acc k
      rw [spl_pass] at this
      show (spl S 0 acc (r.drop k)).length ≤ _
      simp only [List.length_cons]
      omega
    | zero =>
      by_cases h : pre S (c :: r) = true
      · rw [spl_hit h]
        have := ih [] (S.length - 1)
        simp only [List.length_cons]
        omega
      · rw [spl_miss (by simpa using h)]
        have := ih (acc ++ [c]) 0
        simp only [List.length_cons]
        omega
theorem split_tl (z : Str) {y : Str} {s : Nat} {S : List Nat} (e : tl y = s :: S) (h : y.cps.all (· < 256) = true) : (Txt.split z y).map tl = spl (s :: S) 0 [] (tl z) := by
  rw [← e]
  exact split_spl z y (by rw [e]; simp) (kind_ok h)
theorem prts_len (z : Str) : (prts z).length ≤ z.length + 1 := by
  have h := congrArg List.length (split_tl z (y := comS) (s := 44) (S := []) (by decide +kernel) (by decide +kernel))
  rw [List.length_map] at h
  unfold prts
  rw [h, len_tl]
  exact spl_count _ _ _ _
theorem wds_len (z : Str) : (wds z).length ≤ z.length + 1 := by
  have h := congrArg List.length (split_tl z (y := spcS) (s := 32) (S := []) (by decide +kernel) (by decide +kernel))
  rw [List.length_map] at h
  unfold wds
  rw [h, len_tl]
  exact spl_count _ _ _ _
theorem spl_mem_len (S l acc : List Nat) (k : Nat) : ∀ x ∈ spl S k acc l, x.length ≤ acc.length + l.length := by
  induction l generalizing k acc with
  | nil =>
    intro x hx
    rw [spl_nil] at hx
    rw [List.mem_singleton.mp hx]
    simp
  | cons c r ih =>
    intro x hx
    cases k with
    | succ k =>
      rw [spl_pass] at hx
      have h1 := ih acc k
      rw [spl_pass] at h1
      have h2 := h1 x hx
      simp only [List.length_cons]
      omega
    | zero =>
      by_cases h : pre S (c :: r) = true
      · rw [spl_hit h] at hx
        rcases List.mem_cons.mp hx with rfl | hx
        · simp
        · have h2 := ih [] (S.length - 1) x hx
          simp only [List.length_cons, List.length_nil] at h2 ⊢
          omega
      · rw [spl_miss (by simpa using h)] at hx
        have h2 := ih (acc ++ [c]) 0 x hx
        simp only [List.length_cons, List.length_append, List.length_nil] at h2 ⊢
        omega
theorem split_mem_len {z y : Str} {s : Nat} {S : List Nat} (e : tl y = s :: S) (h : y.cps.all (· < 256) = true) : ∀ x ∈ Txt.split z y, x.length ≤ z.length := by
  intro x hx
  have h1 : tl x ∈ spl (s :: S) 0 [] (tl z) := by
    rw [← split_tl z e h]
    exact List.mem_map_of_mem hx
  have h2 := spl_mem_len _ _ _ _ _ h1
  rw [len_tl, len_tl]
  simpa using h2
theorem prts_mem_len {z x : Str} (h : x ∈ prts z) : x.length ≤ z.length := split_mem_len (y := comS) (s := 44) (S := []) (by decide +kernel) (by decide +kernel) x h
theorem wds_mem_len {z x : Str} (h : x ∈ wds z) : x.length ≤ z.length := split_mem_len (y := spcS) (s := 32) (S := []) (by decide +kernel) (by decide +kernel) x h
end Fl

-- KF2
/-! is_rising, is_table, the readings of words -/
namespace Fl
open PySem PySem.Spec PyProof.Rows L2 TL RZ
abbrev vS (ss : List Str) : List V := ss.map V.str
abbrev spIsRising (K : PySem.W.Frag) : Sp := Pr (fun q : Addr × List Str => [.ref q.1]) (fun q H => q.2.length ≤ 1000 ∧ SqT K H q.1 (vS q.2)) (fun q H r H' => r = .bl (risB q.2) ∧ Same H H')
/-- None, or a tuple of texts -/
def TupO (K : PySem.W.Frag) (H : Hp) : V → Option (List Str) → Prop
  | v, none => v = .non
  | v, some ss => ∃ a, v = .ref a ∧ SqT K H a (vS ss) ∧ ss.length ≤ 1000 ∧ ∀ x ∈ ss, x.length ≤ sizeLine
abbrev spIsTable (K : PySem.W.Frag) : Sp := Pr (fun q : V × Option (List Str) => [q.1]) (fun q H => TupO K H q.1 q.2) (fun q H r H' => r = .bl (q.2.any fun ss => ss.all nameB && risB ss) ∧ Same H H')
abbrev spNumber : Sp := Pr (fun z : Str => [.str z]) (fun z _ => z.length ≤ 100000) (fun z H r H' => r = ov (numO z) ∧ Same H H')
abbrev spCount : Sp := Pr (fun z : Str => [.str z]) (fun z _ => z.length ≤ 100000) (fun z H r H' => r = ov (cntO z) ∧ Same H H')
abbrev spTable (K : PySem.W.Frag) : Sp := Pr (fun z : Str => [.str z]) (fun z _ => z.length ≤ 900) (fun z H r H' => (if tblB z = true then ∃ a, r = .ref a ∧ SqT K H' a (vS (tblP z)) else r = .non) ∧ Same H H')
abbrev spNumbers (K : PySem.W.Frag) : Sp := Pr (fun z : Str => [.str z]) (fun z _ => z.length ≤ 900) (fun z H r H' => (if nmsB z = true then ∃ a, r = .ref a ∧ SqT K H' a ((prts z).map fun x => ov (cntO x)) else r = .non) ∧ Same H H')
theorem sqT_same {K : PySem.W.Frag} {H H' : Hp} {a : Addr} {xs : List V} (e : Same H H') (h : SqT K H a xs) : SqT K H' a xs := by
  rcases h with (h | ⟨o, h⟩) | h
  · exact .inl (.inl (e _ _ h))
  · exact .inl (.inr ⟨o, e _ _ h⟩)
  · exact .inr h
/-- t[lo:hi] of a tuple: some tuple of these items, the rest of the heap as it was -/
def rSlU (K : PySem.W.Frag) : V → Option Int → Option Int → Hp → VK → Prop := fun x lo hi H Q => ∃ a xs, x = .ref a ∧ SqT K H a xs ∧ ∀ p H1, Same H H1 → SqT K H1 p (cutV xs lo hi) → Q (.ref p) H1
theorem sl_tupU {X : Cx} : SlR X (rSlU X.K) := by
  intro pins s σ H x v vl vu lo hi sl Q I rx hs pl pu ⟨a, xs, hx, hS, q⟩
  refine sl_tupA pins s σ H x v vl vu lo hi sl Q I rx hs pl pu ⟨a, xs, hx, hS, fun h => q a H (Same.refl _) ?_, fun _ p hp => q p _ (same_upd hp) (SqT.of upd_same)⟩
  have e : cutV xs lo hi = xs := by
    unfold cutV
    rw [h.1, h.2, List.drop_zero, Nat.sub_zero, List.take_length]
  rw [e]
  exact hS
/-! a text's signs, all of them in another text -/
section
variable {K : PySem.W.Frag}
theorem walk_zipT {a b : Addr} {xs ys : List V} {n : Nat} (hn : n = min xs.length ys.length) : Walk (ItzT K a b) n (fun H => SqT K H a xs ∧ SqT K H b ys) (YPair (fun i => xs[i]?) (fun i => ys[i]?)) := by
  subst hn
  refine ⟨fun i _ hi q => ?_, fun _ q => ⟨xs, ys, q.1, q.2, by omega⟩, fun i H v H' _ q y => ?_⟩
  · have h1 : i < xs.length := by omega
    have h2 : i < ys.length := by omega
    exact ⟨xs, ys, xs[i], ys[i], q.1, q.2, by simp [h1], by simp [h2]⟩
  · obtain ⟨T, x, z, h1, h2, h3, h4, h5⟩ := y
    exact ⟨T, x, z, h1, h2, h3, h4 xs q.1, h5 ys q.2⟩
theorem r_allsigns {σ : L2.St} {H : Hp} {Q : VK} {i j : Nat} {z S : Str} (hz : z.length ≤ sizeLine) (hj : σ[j]? = some (some (.str z))) (hw : ∀ x : V, wipe ((wipe σ [i]).set i (some x)) [i] = wipe σ [i]) (hi : ∀ x : V, ((wipe σ [i]).set i (some x))[i]? = some (some x))
    (h : ∀ H', Same H H' → Q (.bl ((tl z).all fun c => decide (c ∈ tl S))) H') :
    tCB (rAll K) (tCons (tLc (iStr (tVar j)) (gName i) tYes (tOp (fun x y H Q => ∃ (c : Nat) (z : Str), x = .str ⟨#[c]⟩ ∧ y = .str z ∧ Q (.bl (decide (c ∈ z.cps.toList))) H) (tVar i) (tC (.str S))) [i]) tNil) σ H Q := by
  refine ⟨_, hj, z, rfl, fun D hD => ?_⟩
  refine lcw (walk_str (z := z)) fram_same hD (by show z.cps.size ≤ _; exact hz) (fun _ _ => trivial) (fun i acc _ => acc = ((tl z).take i).map fun c => V.bl (decide (c ∈ tl S))) (fun _ _ _ _ _ h => h) (by simp) (fun k x acc H' H2 hk r y hI hacc => ?_) (fun H' acc r hacc hI => ?_)
  · obtain ⟨rfl, c, hc, rfl⟩ := y
    intro Zk Zs hkp _
    refine ⟨hw _, ?_⟩
    show if true = true then _ else Zs H2
    rw [if_pos rfl]
    refine ⟨_, hi _, c, _, rfl, rfl, hkp _ _ (Same.refl _) ?_⟩
    have hc2 : (tl z)[k]? = some c := by simpa [tl] using hc
    rw [hI, List.take_succ, hc2, List.map_append]
    rfl
  · have hl : (tl z).length = z.cps.size := by simp [tl]
    rw [← hl, List.take_length] at hI
    refine ⟨D, (tl z).map fun c => decide (c ∈ tl S), rfl, SqL.of (by rw [hacc, hI, List.map_map]; rfl), ?_⟩
    rw [List.all_map]
    exact h H' r
end
section
variable {P : Program} {w : World} {K : PySem.W.Frag} {mg : Str → Option Value} {base : Heap}
theorem ok_is_rising (T : Tx K mg) : OkF P w K mg base CX0 1 "is_rising" ["some"] (spIsRising K) := by
  have sc : FnScope ["some", "one", "other"] ["some"] (defScope (topS 20)) := ⟨rfl, rfl, rfl, by decide +kernel, rfl, by decide +kernel, by decide +kernel⟩
  refine okF T 3 20 rfl sc (fun _ _ _ _ _ _ us hl => match us, hl with | [_], _ => rfl) (fun vs H Q E ⟨_, e, _⟩ => by rw [e] <;> rfl) fun cdv A outer s H vs Q E hr ⟨⟨a, ss⟩, e, ⟨hz, hS⟩, hQ⟩ => ?_
  subst e
  refine ⟨_, PSs.nox (pss_one (ps_ret (pe_callB (cr_all rfl) rfl (T.bl (x := "all")) (by decide +kernel) (pa_cons (pe_lc (own := [("one", 1), ("other", 2)]) (g := gTup K 2 (gCons (gName 1) (gCons (gName 2) (gNil)))) (by rfl) sc.nd (pi_zipA rfl (T.bl (x := "zip")) (pa_cons (pv 0) (pa_cons (pe_slice sl_tupU (pv 0) (po_some pe_int) po_none) pa_nil))) (blkOk_by (own := [("one", 1), ("other", 2)]) (N := ["some", "one", "other"]) (sc := (defScope (topS 20))) (by decide +kernel)) (fun _ _ _ _ _ => (pg_tup rfl (pgs_cons (pg_name (i := 1) sc.nd rfl (.inl rfl) (hf := .inr rfl)) (pgs_cons (pg_name (i := 2) sc.nd rfl (.inl rfl) (hf := .inr rfl)) pgs_nil)))) (fun _ _ _ _ _ => pts_nil) (fun _ _ _ _ _ => (pe_cmpR op_lt_str (pv 1) (pv 2) (nomark _)))) pa_nil)))), ?_⟩
  have hcut : cutV (vS ss) (some 1) none = vS ss.tail := by
    unfold cutV
    rw [show ((1 : Int)) = ((1 : Nat) : Int) from rfl, HT.sIx_nat]
    cases ss with
    | nil => rfl
    | cons x r =>
      show ((V.str x :: r.map V.str).drop (min 1 (r.map V.str).length.succ)).take ((r.map V.str).length.succ - min 1 (r.map V.str).length.succ) = r.map V.str
      rw [show min 1 (r.map V.str).length.succ = 1 from by omega]
      show (r.map V.str).take ((r.map V.str).length.succ - 1) = r.map V.str
      rw [Nat.succ_sub_one, List.take_length]
  have hz2 : (ss.zip ss.tail).length ≤ sizeLine := by
    rw [List.length_zip, sizeLine_eq]
    have h2 : ss.length ≤ 1000 := hz
    omega
  refine ⟨_, rfl, _, rfl, 1, rfl, a, vS ss, rfl, hS, fun b H1 hs hb => ?_⟩
  have hb : SqT K H1 b (vS ss.tail) := by rw [← hcut]; exact hb
  have hS1 : SqT K H1 a (vS ss) := sqT_same hs hS
  refine ⟨a, b, vS ss, vS ss.tail, rfl, .inr ⟨hS1, hb, fun D hD => ?_⟩⟩
  refine lcw (walk_zipT (n := (ss.zip ss.tail).length) (by simp [List.length_zip])) fram_same hD hz2 (fun H' r => ⟨sqT_same r hS1, sqT_same r hb⟩) (fun i acc _ => acc = ((ss.zip ss.tail).take i).map fun p => V.bl (decide (tl p.1 < tl p.2))) (fun _ _ _ _ _ h => h) (by simp)
    (fun i x acc H' H2 hi r y hI hacc => ?_) (fun H' acc r hacc hI => ?_)
  · obtain ⟨T1, x1, y1, rfl, hT, rfl, hx, hy⟩ := y
    intro Zk Zs hk _
    have hx2 : ss[i]?.map V.str = some x1 := by simpa using hx
    have hy2 : ss.tail[i]?.map V.str = some y1 := by simpa using hy
    obtain ⟨x2, ex, rfl⟩ := Option.map_eq_some_iff.mp hx2
    obtain ⟨y2, ey, rfl⟩ := Option.map_eq_some_iff.mp hy2
    refine ⟨T1, _, rfl, SqT.of upd_same, rfl, _, _, rfl, _, _, rfl, rfl, rfl, yes_turn ?_⟩
    refine ⟨_, rfl, _, rfl, _, _, rfl, rfl, hk _ _ (same_upd hT) ?_⟩
    have hc2 : (ss.zip ss.tail)[i]? = some (x2, y2) := by rw [List.getElem?_zip_eq_some]; exact ⟨ex, ey⟩
    rw [hI, List.take_succ, hc2, List.map_append]
    rfl
  · rw [List.take_length] at hI
    refine ⟨D, (ss.zip ss.tail).map fun p => decide (tl p.1 < tl p.2), rfl, SqL.of (by rw [hacc, hI, List.map_map]; rfl), hQ _ _ ⟨?_, hs.trans r⟩⟩
    unfold risB
    rw [List.all_map]
    rfl
theorem ok_is_table (T : Tx K mg) : OkF P w K mg base CX0 2 "is_table" ["thing"] (spIsTable K) := by
  have sc : FnScope ["thing", "one"] ["thing"] (defScope (topS 21)) := ⟨rfl, rfl, rfl, by decide +kernel, rfl, by decide +kernel, by decide +kernel⟩
  refine okF T 4 21 rfl sc (fun _ _ _ _ _ _ us hl => match us, hl with | [_], _ => rfl) (fun vs H Q E ⟨_, e, _⟩ => by rw [e] <;> rfl) fun cdv A outer s H vs Q E hr ⟨⟨v, o⟩, e, hS, hQ⟩ => ?_
  subst e
  refine ⟨_, PSs.nox (pss_one (ps_ret (pe_and (pe_callB call_isi rfl (T.bl (x := "isinstance")) (by decide +kernel) (pa_cons (pv 0) (pa_cons (pe_bltn (v := .ty "tuple") rfl (T.bl (x := "tuple")) (by decide +kernel) rfl) pa_nil))) (pe_and (pe_callB (cr_all rfl) rfl (T.bl (x := "all")) (by decide +kernel) (pa_cons (pe_lc (own := [("one", 1)]) (g := gName 1) (by rfl) sc.nd (pi_tup (pv 0)) (blkOk_by (own := [("one", 1)]) (N := ["thing", "one"]) (sc := (defScope (topS 21))) (by decide +kernel)) (fun _ _ _ _ _ => (pg_name (i := 1) sc.nd rfl (.inl rfl) (hf := .inr rfl))) (fun _ _ _ _ _ => pts_nil) (fun _ _ _ _ _ => (pe_fn (ok_is_name T) (hr.mono (by decide)) pass0 (pa_cons (pv 1) pa_nil)))) pa_nil)) (pe_one (pe_fn (ok_is_rising T) (hr.mono (by decide)) pass0 (pa_cons (pv 0) pa_nil))))))), ?_⟩
  cases o with
  | none =>
    have hS : v = .non := hS
    subst hS
    exact ⟨_, rfl, _, _, _, _, _, rfl, .ty _, .base .non, kit_ty (b := "tuple") (r := false) (by decide +kernel), _, rfl, hQ _ _ ⟨rfl, Same.refl _⟩⟩
  | some ss =>
    obtain ⟨a, rfl, hS, hz, hl⟩ := hS
    have ty : TyX K H (.ref a) (.type "tuple") := by
      rcases hS with (h | ⟨ob, h⟩) | ⟨ob, its, n, h1, h2, _⟩
      · exact .base (.tup h)
      · exact .fTuple h
      · exact .kTuple h1 h2
    refine ⟨_, rfl, _, _, _, _, _, rfl, .ty _, ty, kit_ty (b := "tuple") (r := true) (by decide +kernel), _, rfl, ?_⟩
    refine ⟨_, rfl, a, rfl, ⟨_, hS⟩, fun D hD => ?_⟩
    refine lcw (walk_tup (xs := vS ss)) fram_same hD (by rw [List.length_map, sizeLine_eq]; omega) (fun H' r => sqT_same r hS) (fun i acc _ => acc = (ss.take i).map fun z => V.bl (nameB z)) (fun _ _ _ _ _ h => h) (by simp)
      (fun i x acc H' H2 hi r y hI hacc => ?_) (fun H' acc r hacc hI => ?_)
    · obtain ⟨rfl, hx⟩ := y
      intro Zk Zs hk _
      have hx2 : ss[i]?.map V.str = some x := by simpa using hx
      obtain ⟨z, ex, rfl⟩ := Option.map_eq_some_iff.mp hx2
      refine ⟨rfl, yes_turn ⟨_, rfl, z, rfl, hl z (List.mem_of_getElem? ex), fun r' H4 q => hk _ _ q.2 ?_⟩⟩
      rw [hI, List.take_succ, ex, List.map_append, q.1]
      rfl
    · rw [List.length_map, List.take_length] at hI
      refine ⟨D, ss.map nameB, rfl, SqL.of (by rw [hacc, hI, List.map_map]; rfl), _, rfl, ?_⟩
      rw [List.all_map]
      show if ss.all nameB = true then _ else _
      by_cases hn : ss.all nameB = true
      · rw [if_pos hn]
        refine ⟨_, rfl, (a, ss), rfl, ⟨hz, sqT_same r hS⟩, fun r' H4 q => hQ _ _ ⟨?_, r.trans q.2⟩⟩
        rw [q.1]
        show V.bl (risB ss) = V.bl (ss.all nameB && risB ss)
        rw [hn, Bool.true_and]
      · rw [if_neg hn]
        refine hQ _ _ ⟨?_, r⟩
        show V.bl false = V.bl (ss.all nameB && risB ss)
        rw [Bool.eq_false_iff.mpr hn, Bool.false_and]
theorem ok_number_or_none (T : Tx K mg) : OkF P w K mg base CX0 1 "number_or_none" ["word"] spNumber := by
  have sc : FnScope ["word", "sign"] ["word"] (defScope (topS 25)) := ⟨rfl, rfl, rfl, by decide +kernel, rfl, by decide +kernel, by decide +kernel⟩
  obtain ⟨tk, hDIG⟩ := T.digits
  obtain ⟨tk2, hMOS⟩ := T.most
  refine okF T 5 25 rfl sc (fun _ _ _ _ _ _ us hl => match us, hl with | [_], _ => rfl) (fun vs H Q E ⟨_, e, _⟩ => by rw [e] <;> rfl) fun cdv A outer s H vs Q E hr ⟨z, e, hz, hQ⟩ => ?_
  subst e
  have hz1 : z.length ≤ sizeLine := by rw [sizeLine_eq]; exact Nat.le_trans hz (by decide)
  have fail : ∀ H1, Same H H1 → numB z = false → Q .non H1 := fun H1 hs h => hQ _ _ ⟨by unfold numO; rw [if_neg (by rw [h]; decide)] <;> rfl, hs⟩
  refine ⟨_, PSs.nox (pss_cons (ps_if (PW.pt (pw_or (pt_not (pt_chain op_le op_le pe_int (pe_callB call_len rfl (T.bl (x := "len")) (by decide +kernel) (pa_cons (pv 0) pa_nil)) (pe_glob (v := .int 60) rfl hMOS ⟨_, rfl⟩))) (pw_or1 (pt_not (pt_val (pe_callB (cr_all rfl) rfl (T.bl (x := "all")) (by decide +kernel) (pa_cons (pe_lc (own := [("sign", 1)]) (g := gName 1) (by rfl) sc.nd (pi_str (pv 0)) (blkOk_by (own := [("sign", 1)]) (N := ["word", "sign"]) (sc := (defScope (topS 25))) (by decide +kernel)) (fun _ _ _ _ _ => (pg_name (i := 1) sc.nd rfl (.inl rfl) (hf := .inr rfl))) (fun _ _ _ _ _ => pts_nil) (fun _ _ _ _ _ => (pe_cmpR op_in_sign (pv 1) (pe_glob (v := .str "0123456789") rfl hDIG ⟨_, rfl⟩) (by rfl)))) pa_nil))))))) (pss_one (ps_ret pe_non)) pss_nil)
 (pss_one (ps_ret (pe_ifExp (PW.pt (pw_or (pt_cmpR op_eq (pv 0) pe_str (nomark _)) (pw_or1 (pt_cmpR op_ne (pe_ix ix_str (pv 0) pe_int (fun _ _ => rfl)) pe_str (nomark _))))) (pe_callTy call_int_str rfl (T.bl (x := "int")) (by decide +kernel) (pa_cons (pv 0) pa_nil)) pe_non)))), ?_⟩
  refine ⟨_, rfl, _, _, rfl, ⟨hz1, rfl⟩, _, _, rfl, rfl, _, rfl, ?_⟩
  refine ite2 (fun h1 => ?_) (fun h1 => ?_)
  · have l1 : (1 : Int) ≤ (z.length : Nat) := of_decide_eq_true h1
    refine ⟨_, _, rfl, rfl, _, rfl, ?_⟩
    by_cases h2 : z.length ≤ 60
    · have e2 : decide (((z.length : Nat) : Int) ≤ 60) = true := decide_eq_true (by omega)
      rw [e2]
      refine iteF ?_
      refine r_allsigns hz1 rfl (fun _ => rfl) (fun _ => rfl) fun H1 hs => ⟨_, rfl, ?_⟩
      by_cases hd : digB z = true
      · have hd2 : ((tl z).all fun c => decide (c ∈ tl ("0123456789" : Str))) = true := hd
        rw [hd2]
        refine iteF ⟨_, rfl, rfl, _, rfl, ?_⟩
        have good : (decide (z = ("0" : Str)) || !hd0 z) = true → Q (.int (valN z)) H1 := fun h => hQ _ _ ⟨by
          unfold numO numB
          rw [if_pos (by rw [decide_eq_true (show 1 ≤ z.length by omega), decide_eq_true h2, hd, h] <;> rfl)] <;> rfl, hs⟩
        have int : (decide (z = ("0" : Str)) || !hd0 z) = true → tCB (fun xs H Q => ∃ a n, xs = [V.str a] ∧ intText? a = some n ∧ a.length ≤ 640 ∧ Q (V.int n) H) (tCons (tVar 0) tNil) (L2.start ["word", "sign"] [V.str z]) H1 Q := fun h =>
          ⟨_, rfl, z, _, rfl, digits_int (by omega) h2 hd, by omega, good h⟩
        by_cases h0 : z = ("0" : Str)
        · rw [show decide (V.str z = V.str ("0" : Str)) = true from decide_eq_true (by rw [h0])]
          exact iteT (iteT (int (by rw [decide_eq_true h0] <;> rfl)))
        · rw [show decide (V.str z = V.str ("0" : Str)) = false from decide_eq_false fun q => h0 (V.str.inj q)]
          obtain ⟨c, r, ec⟩ : ∃ c r, tl z = c :: r := by
            cases e : tl z with
            | nil =>
              have := len_tl z
              rw [e] at this
              simp at this
              omega
            | cons c r => exact ⟨c, r, rfl⟩
          refine iteF ⟨_, rfl, z, 0, c, rfl, rfl, hz1, ?_, rfl, _, rfl, ?_⟩
          · show atI (tl z) 0 = some c
            rw [ec]
            exact atI_nat (j := 0) rfl
          · have ehd : hd0 z = decide (c = 48) := by
              unfold hd0
              rw [ec]
              show decide (some c = some 48) = _
              simp
            have edec : decide (V.str ⟨#[c]⟩ = V.str ("0" : Str)) = decide (c = 48) := by
              rw [decide_eq_decide]
              constructor
              · intro q
                have q2 := congrArg tl (V.str.inj q)
                have q3 : [c] = [48] := q2
                exact (List.cons.inj q3).1
              · intro q
                rw [q]
                rfl
            rw [edec, ← ehd]
            cases hh : hd0 z with
            | false => exact iteT (int (by rw [hh, Bool.not_false, Bool.or_true]))
            | true => exact iteF (fail H1 hs (by unfold numB; rw [hh, decide_eq_false h0]; simp))
      · have hd2 : ((tl z).all fun c => decide (c ∈ tl ("0123456789" : Str))) = false := Bool.eq_false_iff.mpr hd
        rw [hd2]
        exact iteT (fail H1 hs (by unfold numB; rw [Bool.eq_false_iff.mpr hd]; simp))
    · have e2 : decide (((z.length : Nat) : Int) ≤ 60) = false := decide_eq_false (by omega)
      rw [e2]
      refine iteT (fail H (Same.refl _) ?_)
      unfold numB
      rw [decide_eq_false h2]
      simp
  · have l1 : ¬ (1 : Int) ≤ (z.length : Nat) := fun h => h1 (decide_eq_true h)
    refine ⟨_, rfl, iteT (fail H (Same.refl _) ?_)⟩
    unfold numB
    rw [decide_eq_false (by omega)]
    rfl
end
end Fl

-- KF3
/-! count_or_none, table_or_none, numbers_or_none -/
namespace Fl
open PySem PySem.Spec PyProof.Rows L2 TL RZ
theorem one_len : (comS.length == 0) = false := by decide +kernel
section
variable {P : Program} {w : World} {K : PySem.W.Frag} {mg : Str → Option Value} {base : Heap}
theorem ok_count_or_none (T : Tx K mg) : OkF P w K mg base CX0 3 "count_or_none" ["word"] spCount := by
  have sc : FnScope ["word", "found"] ["word"] (defScope (topS 26)) := ⟨rfl, rfl, rfl, by decide +kernel, rfl, by decide +kernel, by decide +kernel⟩
  refine okF T 6 26 rfl sc (fun _ _ _ _ _ _ us hl => match us, hl with | [_], _ => rfl) (fun vs H Q E ⟨_, e, _⟩ => by rw [e] <;> rfl) fun cdv A outer s H vs Q E hr ⟨z, e, hz, hQ⟩ => ?_
  subst e
  refine ⟨_, PSs.nox (pss_cons (ps_set (i := 1) sc.nd rfl (Or.inl rfl) (pe_fn (ok_number_or_none T) (hr.mono (by decide)) pass0 (pa_cons (pv 0) pa_nil)))
 (pss_one (ps_ret (pe_ifExp (pt_val (pe_fn (ok_is_count T) (hr.mono (by decide)) pass0 (pa_cons (pv 1) pa_nil))) (pv 1) pe_non)))), ?_⟩
  refine ⟨_, rfl, z, rfl, hz, fun r H1 q => ?_⟩
  obtain ⟨rfl, hs⟩ := q
  refine ⟨_, rfl, numO z, rfl, trivial, fun r H2 q => ?_⟩
  obtain ⟨rfl, rfl⟩ := q
  refine ⟨_, rfl, ?_⟩
  have e : cntO z = if cntB (numO z) = true then numO z else none := rfl
  cases h : cntB (numO z) with
  | true => exact ite_t rfl ⟨_, rfl, hQ _ _ ⟨by rw [e, if_pos h], hs⟩⟩
  | false => exact ite_f rfl (hQ _ _ ⟨by rw [e, if_neg (by rw [h]; decide)] <;> rfl, hs⟩)
theorem ok_table_or_none (T : Tx K mg) : OkF P w K mg base CX0 3 "table_or_none" ["word"] (spTable K) := by
  have sc : FnScope ["word", "found"] ["word"] (defScope (topS 27)) := ⟨rfl, rfl, rfl, by decide +kernel, rfl, by decide +kernel, by decide +kernel⟩
  refine okF T 7 27 rfl sc (fun _ _ _ _ _ _ us hl => match us, hl with | [_], _ => rfl) (fun vs H Q E ⟨_, e, _⟩ => by rw [e] <;> rfl) fun cdv A outer s H vs Q E hr ⟨z, e, hz, hQ⟩ => ?_
  subst e
  refine ⟨_, PSs.nox (pss_cons (ps_set (i := 1) sc.nd rfl (Or.inl rfl) (pe_ifExp (pt_cmpR op_eq (pv 0) pe_str (nomark _)) (pe_tup pa_nil) (pe_callTy call_tuple_of rfl (T.bl (x := "tuple")) (by decide +kernel) (pa_cons (pe_split (pv 0) pe_str) pa_nil))))
 (pss_one (ps_ret (pe_ifExp (pt_val (pe_fn (ok_is_table T) (hr.mono (by decide)) pass0 (pa_cons (pv 1) pa_nil))) (pv 1) pe_non)))), ?_⟩
  have hz : z.length ≤ 900 := hz
  have hS : 1000 ≤ sizeLine := by rw [sizeLine_eq]; decide
  refine seq_asg (fun v H1 => ∃ a, v = .ref a ∧ Same H H1 ∧ SqT K H1 a (vS (tblP z))) (fun Q' hQ' => ?_) ?_
  · refine ⟨_, rfl, rfl, _, rfl, ?_⟩
    refine ite2 (fun h => ?_) (fun h => ?_)
    · have hz0 : z = ("-" : Str) := V.str.inj (of_decide_eq_true h)
      refine ⟨Nat.zero_le _, fun p hp => hQ' _ _ ⟨p, rfl, same_upd hp, SqT.of ?_⟩⟩
      rw [upd_same]
      unfold tblP
      rw [if_pos hz0] <;> rfl
    · have hz0 : z ≠ ("-" : Str) := fun q => h (decide_eq_true (by rw [q]))
      refine ⟨_, rfl, ⟨_, rfl⟩, _, _, rfl, rfl, one_len, by omega, fun p hp => ⟨p, _, rfl, .inl ⟨SqL.of upd_same, fun l hl => hQ' _ _ ⟨l, rfl, (same_upd hp).trans (same_upd hl), SqT.of ?_⟩⟩⟩⟩
      rw [upd_same]
      unfold tblP
      rw [if_neg hz0] <;> rfl
  · rintro _ H1 ⟨a, rfl, hs, hT⟩
    have hlen : (tblP z).length ≤ 1000 ∧ ∀ x ∈ tblP z, x.length ≤ sizeLine := by
      unfold tblP
      by_cases h : z = ("-" : Str)
      · rw [if_pos h]
        exact ⟨Nat.zero_le _, fun x hx => nomatch hx⟩
      · rw [if_neg h]
        refine ⟨by have := prts_len z; omega, fun x hx => ?_⟩
        have := prts_mem_len hx
        omega
    refine ⟨_, rfl, (.ref a, some (tblP z)), rfl, ⟨a, rfl, hT, hlen⟩, fun r H2 q => ?_⟩
    obtain ⟨rfl, hs2⟩ := q
    refine ⟨_, rfl, ?_⟩
    cases h : tblB z with
    | true => exact ite_t h ⟨_, rfl, hQ _ _ ⟨by rw [if_pos h]; exact ⟨a, rfl, sqT_same hs2 hT⟩, hs.trans hs2⟩⟩
    | false => exact ite_f h (hQ _ _ ⟨by rw [if_neg (by rw [h]; decide)], hs.trans hs2⟩)
theorem ok_numbers_or_none (T : Tx K mg) : OkF P w K mg base CX0 4 "numbers_or_none" ["word"] (spNumbers K) := by
  have sc : FnScope ["word", "found", "part", "one"] ["word"] (defScope (topS 28)) := ⟨rfl, rfl, rfl, by decide +kernel, rfl, by decide +kernel, by decide +kernel⟩
  refine okF T 8 28 rfl sc (fun _ _ _ _ _ _ us hl => match us, hl with | [_], _ => rfl) (fun vs H Q E ⟨_, e, _⟩ => by rw [e] <;> rfl) fun cdv A outer s H vs Q E hr ⟨z, e, hz, hQ⟩ => ?_
  subst e
  refine ⟨_, PSs.nox (pss_cons (ps_set (i := 1) sc.nd rfl (Or.inl rfl) (pe_callTy call_tuple_of rfl (T.bl (x := "tuple")) (by decide +kernel) (pa_cons (pe_lc (own := [("part", 2)]) (g := gName 2) (by rfl) sc.nd (pi_list (pe_split (pv 0) pe_str)) (blkOk_by (own := [("part", 2)]) (N := ["word", "found", "part", "one"]) (sc := (defScope (topS 28))) (by decide +kernel)) (fun _ _ _ _ _ => (pg_name (i := 2) sc.nd rfl (.inl rfl) (hf := .inr rfl))) (fun _ _ _ _ _ => pts_nil) (fun _ _ _ _ _ => (pe_fn (ok_count_or_none T) (hr.mono (by decide)) pass0 (pa_cons (pv 2) pa_nil)))) pa_nil)))
 (pss_one (ps_ret (pe_ifExp (pt_val (pe_callB (cr_all rfl) rfl (T.bl (x := "all")) (by decide +kernel) (pa_cons (pe_lc (own := [("one", 3)]) (g := gName 3) (by rfl) sc.nd (pi_tup (pv 1)) (blkOk_by (own := [("one", 3)]) (N := ["word", "found", "part", "one"]) (sc := (defScope (topS 28))) (by decide +kernel)) (fun _ _ _ _ _ => (pg_name (i := 3) sc.nd rfl (.inl rfl) (hf := .inr rfl))) (fun _ _ _ _ _ => pts_nil) (fun _ _ _ _ _ => (pe_fn (ok_is_count T) (hr.mono (by decide)) pass0 (pa_cons (pv 3) pa_nil)))) pa_nil))) (pv 1) pe_non)))), ?_⟩
  have hz : z.length ≤ 900 := hz
  have hS : 1000 ≤ sizeLine := by rw [sizeLine_eq]; decide
  have hpl := prts_len z
  refine ⟨_, rfl, ⟨_, rfl⟩, _, _, rfl, rfl, one_len, by omega, fun p hp => ⟨p, rfl, ⟨_, SqL.of upd_same⟩, fun D hD => ?_⟩⟩
  refine lcw (walk_list (xs := vS (prts z))) fram_same hD (by rw [List.length_map]; omega) (fun H' r => SqL.of (r _ _ upd_same)) (fun i acc _ => acc = ((prts z).take i).map fun x => ov (cntO x)) (fun _ _ _ _ _ h => h) (by simp)
    (fun i x acc H' H2 hi r y hI hacc => ?_) (fun H' acc r hacc hI => ?_)
  · obtain ⟨rfl, hx⟩ := y
    intro Zk Zs hk _
    have hx2 : (prts z)[i]?.map V.str = some x := by simpa using hx
    obtain ⟨x2, ex, rfl⟩ := Option.map_eq_some_iff.mp hx2
    have hm := prts_mem_len (List.mem_of_getElem? ex)
    refine ⟨rfl, yes_turn ⟨_, rfl, x2, rfl, by show _ ≤ _; omega, fun r' H4 q => hk _ _ q.2 ?_⟩⟩
    rw [hI, List.take_succ, ex, List.map_append, q.1]
    rfl
  · rw [List.length_map, List.take_length] at hI
    rw [hI] at hacc
    refine ⟨D, _, rfl, .inl ⟨SqL.of hacc, fun l hl => ?_⟩⟩
    have r2 : Same H (upd H' l (.tup ((prts z).map fun x => ov (cntO x)))) := ((same_upd hp).trans r).trans (same_upd hl)
    have hT : ∀ H3, Same (upd H' l (.tup ((prts z).map fun x => ov (cntO x)))) H3 → SqT K H3 l ((prts z).map fun x => ov (cntO x)) := fun H3 r3 => SqT.of (r3 _ _ upd_same)
    refine ⟨_, rfl, l, rfl, ⟨_, hT _ (Same.refl _)⟩, fun D2 hD2 => ?_⟩
    refine lcw (walk_tup (xs := (prts z).map fun x => ov (cntO x))) fram_same hD2 (by rw [List.length_map]; omega) (fun H' r => hT _ r) (fun i acc _ => acc = ((prts z).take i).map fun x => V.bl (cntB (cntO x))) (fun _ _ _ _ _ h => h) (by simp)
      (fun i x acc H3 H2 hi r y hI hacc => ?_) (fun H3 acc r hacc hI => ?_)
    · obtain ⟨rfl, hx⟩ := y
      intro Zk Zs hk _
      have hx2 : (prts z)[i]?.map (fun x => ov (cntO x)) = some x := by simpa using hx
      obtain ⟨x2, ex, rfl⟩ := Option.map_eq_some_iff.mp hx2
      refine ⟨rfl, yes_turn ⟨_, rfl, cntO x2, rfl, trivial, fun r' H4 q => hk _ _ (by rw [q.2]; exact Same.refl _) ?_⟩⟩
      rw [hI, List.take_succ, ex, List.map_append, q.1]
      rfl
    · rw [List.length_map, List.take_length] at hI
      refine ⟨D2, (prts z).map fun x => cntB (cntO x), rfl, SqL.of (by rw [hacc, hI, List.map_map]; rfl), _, rfl, ?_⟩
      rw [List.all_map]
      show if nmsB z = true then _ else _
      cases h : nmsB z with
      | true => exact ite_t rfl ⟨_, rfl, hQ _ _ ⟨by rw [if_pos h]; exact ⟨l, rfl, hT _ r⟩, r2.trans r⟩⟩
      | false => exact ite_f rfl (hQ _ _ ⟨by rw [if_neg (by rw [h]; decide)], r2.trans r⟩)
end
end Fl

-- KG1
/-! the class of words -/
namespace Fl
open PySem PySem.Spec PyProof.Rows L2 TL RZ
/-! ### an object of words: its list, its line, its spot -/
def wF (l : Addr) (n i : Int) : List (Str × V) := [("own_words", .ref l), ("own_line", .int n), ("own_field", .int 0), ("own_spot", .int i)]
theorem wF_words (l : Addr) (n i : Int) : (wF l n i).lookup ("own_words" : Str) = some (.ref l) := rfl
theorem wF_put (l : Addr) (n i j : Int) : putF "own_spot" (.int j) (wF l n i) = wF l n j := by
  unfold wF putF
  rw [if_neg (by decide +kernel)]
  unfold putF
  rw [if_neg (by decide +kernel)]
  unfold putF
  rw [if_neg (by decide +kernel)]
  unfold putF
  rw [if_pos rfl]
/-- all but the object at x stays -/
def ExtX (x : Addr) (H H' : Hp) : Prop := ∀ b o, b ≠ x → H b = some o → H' b = some o
theorem ExtX.refl (x : Addr) (H : Hp) : ExtX x H H := fun _ _ _ h => h
theorem extX_trans {x : Addr} {H H1 H2 : Hp} (a : ExtX x H H1) (b : ExtX x H1 H2) : ExtX x H H2 := fun c o n h => b c o n (a c o n h)
theorem extX_same {x : Addr} {H H' : Hp} (a : Same H H') : ExtX x H H' := fun c o _ h => a c o h
theorem extX_upd {x : Addr} {H : Hp} {o : HO} : ExtX x H (upd H x o) := fun c o n h => by rw [upd_ne n]; exact h
structure WI (K : PySem.W.Frag) (H : Hp) (x l : Addr) (ws : List Str) (n i : Int) : Prop where
  ob : ∃ dx, H x = some (.ins (wA K) dx (wF l n i))
  ls : H l = some (.lst (vS ws))
  sz : ws.length ≤ 100000 ∧ ∀ z ∈ ws, z.length ≤ 900
theorem WI.ne {K : PySem.W.Frag} {H : Hp} {x l : Addr} {ws : List Str} {n i : Int} (W : WI K H x l ws n i) : l ≠ x := by
  obtain ⟨dx, h⟩ := W.ob
  exact ne_of W.ls h (by intro z; cases z)
theorem WI.step {K : PySem.W.Frag} {H H' : Hp} {x l : Addr} {ws : List Str} {n i j : Int} (W : WI K H x l ws n i) (e : ExtX x H H') (h : ∃ dx, H' x = some (.ins (wA K) dx (wF l n j))) : WI K H' x l ws n j := ⟨h, e _ _ W.ne W.ls, W.sz⟩
theorem WI.same {K : PySem.W.Frag} {H H' : Hp} {x l : Addr} {ws : List Str} {n i : Int} (W : WI K H x l ws n i) (e : Same H H') : WI K H' x l ws n i := ⟨by
  obtain ⟨dx, h⟩ := W.ob
  exact ⟨dx, e _ _ h⟩, e _ _ W.ls, W.sz⟩
/-- the error's dict: InvalidText(n, i) leaves -/
def ItX (K : PySem.W.Frag) (n i : Int) (c : Value) (d : Option Addr) (H' : Hp) : Prop := c = .ref (itA K) ∧ ∃ dd, d = some dd ∧ H' dd = some (.xd (itF (.int n) (.int i)))
/-- the word at a spot, '' behind the end -/
def wat (ws : List Str) (i : Nat) : Str := ws.getD i Str.empty
abbrev wArg (x : Addr) : List V := [.ref x]
/-- what an object of words is told by: x, l, words, line, spot -/
structure WQ where
  x : Addr
  l : Addr
  ws : List Str
  n : Int
  i : Nat
abbrev WQ.ok (q : WQ) (K : PySem.W.Frag) (H : Hp) : Prop := WI K H q.x q.l q.ws q.n (q.i : Nat)
abbrev WQ.on (q : WQ) (K : PySem.W.Frag) (H H' : Hp) : Prop := ExtX q.x H H' ∧ WI K H' q.x q.l q.ws q.n ((q.i + 1 : Nat) : Int)
abbrev WQ.out (q : WQ) (K : PySem.W.Frag) (H : Hp) (c : Value) (d : Option Addr) (H' : Hp) : Prop := ExtX q.x H H' ∧ ItX K q.n (q.i : Nat) c d H'
abbrev spWordHere (K : PySem.W.Frag) : Sp := Pr (fun q : WQ => [.ref q.x]) (fun q H => q.ok K H) (fun q H r H' => r = .str (wat q.ws q.i) ∧ H' = H)
abbrev spTake (K : PySem.W.Frag) : Sp := PrE (fun q : WQ × V => [.ref q.1.x, q.2]) (fun q H => q.1.ok K H) (fun q H r H' => q.2 ≠ .non ∧ r = q.2 ∧ q.1.on K H H') (fun q H c d H' => q.2 = .non ∧ q.1.out K H c d H')
abbrev spTakeWord (K : PySem.W.Frag) : Sp := PrE (fun q : WQ × Addr × List Str => [.ref q.1.x, .ref q.2.1]) (fun q H => q.1.ok K H ∧ SqT K H q.2.1 (vS q.2.2)) (fun q H r H' => wat q.1.ws q.1.i ∈ q.2.2 ∧ r = .str (wat q.1.ws q.1.i) ∧ q.1.on K H H')
  (fun q H c d H' => wat q.1.ws q.1.i ∉ q.2.2 ∧ q.1.out K H c d H')
abbrev spTakeName (K : PySem.W.Frag) : Sp := PrE (fun q : WQ => [.ref q.x]) (fun q H => q.ok K H) (fun q H r H' => nameB (wat q.ws q.i) = true ∧ r = .str (wat q.ws q.i) ∧ q.on K H H') (fun q H c d H' => nameB (wat q.ws q.i) = false ∧ q.out K H c d H')
abbrev spTakeNumber (K : PySem.W.Frag) : Sp := PrE (fun q : WQ => [.ref q.x]) (fun q H => q.ok K H) (fun q H r H' => (∃ z, numO (wat q.ws q.i) = some z ∧ r = .int z) ∧ q.on K H H') (fun q H c d H' => numO (wat q.ws q.i) = none ∧ q.out K H c d H')
abbrev spTakeCount (K : PySem.W.Frag) : Sp := PrE (fun q : WQ => [.ref q.x]) (fun q H => q.ok K H) (fun q H r H' => (∃ z, cntO (wat q.ws q.i) = some z ∧ r = .int z) ∧ q.on K H H') (fun q H c d H' => cntO (wat q.ws q.i) = none ∧ q.out K H c d H')
abbrev spTakeTable (K : PySem.W.Frag) : Sp := PrE (fun q : WQ => [.ref q.x]) (fun q H => q.ok K H) (fun q H r H' => tblB (wat q.ws q.i) = true ∧ (∃ a, r = .ref a ∧ SqT K H' a (vS (tblP (wat q.ws q.i)))) ∧ q.on K H H') (fun q H c d H' => tblB (wat q.ws q.i) = false ∧ q.out K H c d H')
abbrev spTakeNumbers (K : PySem.W.Frag) : Sp := PrE (fun q : WQ => [.ref q.x]) (fun q H => q.ok K H) (fun q H r H' => nmsB (wat q.ws q.i) = true ∧ (∃ a, r = .ref a ∧ SqT K H' a ((prts (wat q.ws q.i)).map fun x => ov (cntO x))) ∧ q.on K H H')
  (fun q H c d H' => nmsB (wat q.ws q.i) = false ∧ q.out K H c d H')
abbrev spFinish (K : PySem.W.Frag) : Sp := PrE (fun q : WQ => [.ref q.x]) (fun q H => q.ok K H) (fun q H r H' => q.ws.length ≤ q.i ∧ r = .non ∧ H' = H) (fun q H c d H' => q.i < q.ws.length ∧ q.out K H c d H')
theorem wat_len {ws : List Str} (h : ∀ z ∈ ws, z.length ≤ 900) (i : Nat) : (wat ws i).length ≤ 900 := by
  unfold wat
  rw [List.getD_eq_getElem?_getD]
  cases e : ws[i]? with
  | none => decide +kernel
  | some z => exact h z (List.mem_of_getElem? e)
section
variable {X : Cx} {CX : CXT} {k : Nat} {x m : Str} {ps : List Str} {sp : Sp} {E : XK} {e o : Expr} {es : List Expr} {p pos apos : Pos} {t : TA} {ta : TE} {pl : Sem Bool}
def tMt (K : PySem.W.Frag) (m : Str) (sp : Sp) (E : XK) (ta : TE) (t : TA) : TE := fun σ H Q => ta σ H fun x H1 => ∃ a dx fs, x = .ref a ∧ H1 a = some (.ins (wA K) dx fs) ∧ fs.lookup m = none ∧ t σ H1 fun vs H2 => sp (x :: vs) H2 Q E
theorem pe_mt (ho : PE X o ta) (G : OkM X.prog X.w X.K X.mg X.base CX k m ps sp) (hr : Room k X.A) (hx : Passes CX X E) (ha : PA X (e :: es) t)
    (hst : starEach (e :: es) X.env = (false, eval e X.env) :: starEach es X.env := by rfl) (hpl : (backTo pos (starEach es X.env)).any (·.1) = false := by rfl)
    (ht : eval (.Call (.Attribute o m apos) (e :: es) [] pos) X.env = (do
      let ov ← eval o X.env
      standAt apos.atName
      let (f, first) ← holding [ov] (getMethod ov m pl)
      callWith pos f first (backTo pos (starEach (e :: es) X.env)) (backToKw pos (keywordEach [] X.env))) := by rfl) : PE X (.Call (.Attribute o m apos) (e :: es) [] pos) (tMt X.K m sp E ta t) := by
  obtain ⟨fd, c, hm, hb, F⟩ := G.ex
  have z := pe_meth (pl := pl) ho c hm F hr hb .nil hx ha hst hpl ht
  have e1 : (tMeth (wA X.K) m sp [] E ta t) = tMt X.K m sp E ta t := by
    funext σ H Q
    unfold tMeth tMt
    simp only [List.append_nil]
  rw [← e1]
  exact z
theorem pe_mt0 (ho : PE X o ta) (G : OkM X.prog X.w X.K X.mg X.base CX k m ps sp) (hr : Room k X.A) (hx : Passes CX X E)
    (ht : eval (.Call (.Attribute o m apos) [] [] pos) X.env = (do
      let ov ← eval o X.env
      standAt apos.atName
      let (f, first) ← holding [ov] (getMethod ov m pl)
      callWith pos f first (backTo pos (starEach [] X.env)) (backToKw pos (keywordEach [] X.env))) := by rfl) : PE X (.Call (.Attribute o m apos) [] [] pos) (tMt X.K m sp E ta tNil) := by
  obtain ⟨fd, c, hm, hb, F⟩ := G.ex
  have z := pe_meth0 (pl := pl) ho c hm F hr hb .nil hx ht
  have e1 : (tMeth (wA X.K) m sp [] E ta tNil) = tMt X.K m sp E ta tNil := by
    funext σ H Q
    unfold tMeth tMt
    simp only [List.append_nil]
  rw [← e1]
  exact z
end
theorem room1 {k : Nat} {A : Around} (r : Room k A) : A.depth + 1 < recursionLimit := by have := r.dp; omega
section
variable {P : Program} {w : World} {K : PySem.W.Frag} {mg : Str → Option Value} {base : Heap}
theorem passN {N : List Str} {qual : Str} {sc : Scope} {f : Addr} {cd : Value} {A : Around} {outer : List Env} {s : Shared} {H : Hp} {E : XK} : Passes (L2N.CX P w) (cxOf (L2N.CX P w) P w K mg base N qual sc f cd A outer s H E) E :=
  L2N.passes_call (L2N.takes_of rfl rfl rfl rfl) (fun _ _ _ _ h => h)
theorem ok_word_here (T : Tx K mg) : OkM P w K mg base CX0 1 "word_here" ["self"] (spWordHere K) := by
  have sc : FnScope ["self"] ["self"] (defScope (inClass (topS 29) 1)) := ⟨rfl, rfl, rfl, by decide +kernel, rfl, by decide +kernel, by decide +kernel⟩
  refine okM T 10 1 0 rfl rfl sc (fun _ _ _ _ _ _ us hl => match us, hl with | [_], _ => rfl) (fun vs H Q E ⟨_, e, _⟩ => by rw [e] <;> rfl) fun cdv A outer s H vs Q E hr ⟨q, e, hW, hQ⟩ => ?_
  subst e
  refine ⟨_, PSs.nox (pss_one (ps_ret (pe_ifExp (pt_cmpR op_lt (pe_fld (pv 0) rfl) (pe_callB call_len rfl (T.bl (x := "len")) (by decide +kernel) (pa_cons (pe_fld (pv 0) rfl) pa_nil)) (nomark _)) (pe_ix ix_list (pe_fld (pv 0) rfl) (pe_fld (pv 0) rfl) (fun _ _ => rfl)) pe_str))), ?_⟩
  obtain ⟨dx, hx⟩ := hW.ob
  have hi : ∀ {p : V → Prop}, p (.int (q.i : Nat)) → p (.int (q.i : Nat)) := fun h => h
  refine ⟨_, rfl, q.x, wA K, dx, _, _, rfl, hx, T.cl, T.nSpot, rfl, _, rfl, q.x, wA K, dx, _, _, rfl, hx, T.cl, T.nWords, rfl, _, _, rfl, .inl ⟨_, SqL.of hW.ls, rfl⟩, _, _, rfl, rfl, _, rfl, ?_⟩
  by_cases h : q.i < q.ws.length
  · refine ite_t (decide_eq_true (by rw [List.length_map]; omega)) ⟨_, rfl, q.x, wA K, dx, _, _, rfl, hx, T.cl, T.nWords, rfl, _, rfl, q.x, wA K, dx, _, _, rfl, hx, T.cl, T.nSpot, rfl, q.l, vS q.ws, _, .str (q.ws[q.i]), rfl, rfl, SqL.of hW.ls, atI_nat (by simp [h]), hQ _ _ ⟨?_, rfl⟩⟩
    unfold wat
    rw [List.getD_eq_getElem?_getD, List.getElem?_eq_getElem h] <;> rfl
  · refine ite_f (decide_eq_false (by rw [List.length_map]; omega)) (hQ _ _ ⟨?_, rfl⟩)
    unfold wat
    rw [List.getD_eq_getElem?_getD, List.getElem?_eq_none_iff.mpr (by omega)] <;> rfl
end
end Fl

-- KM2
/-! where a text cannot stand, and what it tells: plain functions; data made of tuples -/
namespace Fl
open PySem PySem.Spec PyProof.Rows L2 TL
/-! ### sorts of words -/
abbrev Can : Type := Str → Bool
def cNum : Can := fun z => (numO z).isSome
def cFee : Can := fun z => (cntO z).isSome
def cHas : Can := fun z => decide (z ∈ (["has", "not"] : List Str))
def cGuard : Can := fun z => decide (z ∈ (["on", "off"] : List Str))
def cLive : Can := fun z => decide (z ∈ (["live"] : List Str))
/-- the first word from spot i that its sort does not take -/
def runF : List Can → List Str → Nat → Option Nat
  | [], _, _ => none
  | c :: r, ws, i => if c (wat ws i) = true then runF r ws (i + 1) else some i
/-- the same, and no word behind the last -/
def spotF : List Can → List Str → Nat → Option Nat
  | [], ws, i => if ws.length ≤ i then none else some i
  | c :: r, ws, i => if c (wat ws i) = true then spotF r ws (i + 1) else some i
abbrev kindC : List Can := [nameB, cFee, cHas, tblB]
abbrev cameC : List Can := [nameB, cNum, nameB, cNum]
abbrev liveC : List Can := [cLive, cGuard, cNum, nmsB, cNum]
def evSpot (ws : List Str) : Option Nat := if wat ws 0 = ("came" : Str) then spotF cameC ws 1 else if wat ws 0 = ("guard" : Str) then spotF [cGuard] ws 1 else if wat ws 0 = ("note" : Str) then spotF [nameB] ws 1 else some 0
def lnSpot (asked : Bool) (ws : List Str) : Option Nat := if asked = true then some 0 else if wat ws 0 = ("kind" : Str) then spotF kindC ws 1 else if wat ws 0 = ("asker" : Str) then spotF [nameB] ws 1 else some 0
def isAsk (ws : List Str) : Bool := decide (wat ws 0 = ("asker" : Str))
/-- the lines of a web from line k on -/
def webF (k : Nat) (asked : Bool) : List Str → Option (Nat × Nat)
  | [] => if asked = true then none else some (k, 0)
  | x :: r => match lnSpot asked (wds x) with
    | some s => some (k, s)
    | none => webF (k + 1) (isAsk (wds x)) r
def evF (k : Nat) : List Str → Option (Nat × Nat)
  | [] => none
  | x :: r => match evSpot (wds x) with
    | some s => some (k, s)
    | none => evF (k + 1) r
/-- how many lines the web has -/
def manyN (x : Str) : Nat := NumText.digitsVal (tl (wat (wds x) 4))
def rowsN (x : Str) (r : List Str) : List Str := r.take (manyN x)
def logF : List Str → Option (Nat × Nat)
  | [] => some (0, 0)
  | x :: r => match spotF liveC (wds x) 0 with
    | some s => some (0, s)
    | none => match webF 0 false (rowsN x r) with
      | some p => some (p.1 + 1, p.2)
      | none => if r.length < manyN x then some (r.length + 1, 0) else evF (manyN x + 1) (r.drop (manyN x))
/-! ### what is told -/
def kindD (ws : List Str) : PyData := .tuple [.str (wat ws 1), .int (valN (wat ws 2)), .bool (decide (wat ws 3 = ("has" : Str))), .tuple ((tblP (wat ws 4)).map .str)]
def storeD (ws : List Str) (i : Nat) : PyData := .tuple [.str (wat ws i), .int (valN (wat ws (i + 1)))]
def evD (ws : List Str) : PyData := if wat ws 0 = ("came" : Str) then .tuple [.str "came", storeD ws 1, storeD ws 3] else .tuple [.str (wat ws 0), .str (wat ws 1)]
def webD (ls : List Str) : PyData := .tuple [.tuple (ls.dropLast.map fun x => kindD (wds x)), .str (wat (wds (ls.getLastD Str.empty)) 1)]
def numsD (z : Str) : PyData := .tuple ((prts z).map fun x => .int (valN x))
def liveD (x : Str) (rows : List Str) : PyData := .tuple [.str "live", webD rows, numsD (wat (wds x) 3), .int (valN (wat (wds x) 2)), .str (wat (wds x) 1)]
def logD : List Str → PyData
  | [] => .none
  | x :: r => .tuple (liveD x (rowsN x r) :: (r.drop (manyN x)).map fun y => evD (wds y))
def textD (p : Nat × Nat) : PyData := .tuple [.str "text", .int (p.1 : Nat), .int (p.2 : Nat)]
def toldD (d : PyData) : PyData := .tuple [.str "told", d]
def dueD (ls : List Str) : PyData := match logF ls with
  | some p => textD p
  | none => toldD (logD ls)
def dueE (x : Str) : PyData := match evSpot (wds x) with
  | some s => textD (0, s)
  | none => toldD (evD (wds x))
/-! ### data of tuples -/
mutual
def noL : PyData → Bool
  | .list _ => false
  | .dict _ => false
  | .tuple ds => noLs ds
  | .none => true
  | .bool _ => true
  | .int _ => true
  | .str _ => true
def noLs : List PyData → Bool
  | [] => true
  | d :: ds => noL d && noLs ds
end
section
variable {K : PySem.W.Frag} {H H' : Hp}
mutual
theorem dp_mono (e : TupX H H') : ∀ (d : PyData) (v : V), noL d = true → Dp K H v d → Dp K H' v d
  | .none, _, _, h => by cases h; exact .non
  | .bool b, _, _, h => by cases h; exact .bl b
  | .int i, _, _, h => by cases h; exact .int i
  | .str x, _, _, h => by cases h; exact .str x
  | .list ds, _, n, _ => by cases n
  | .tuple ds, _, n, h => by
    cases h with
    | tup hs ha => exact .tup (sqT_tupX e hs) (dps_mono e ds _ n ha)
  | .dict _, _, _, h => by cases h
theorem dps_mono (e : TupX H H') : ∀ (ds : List PyData) (vs : List V), noLs ds = true → DpAll K H vs ds → DpAll K H' vs ds
  | [], _, _, h => by cases h; exact .nil
  | d :: ds, _, n, h => by
    cases h with
    | cons h1 h2 =>
      have n2 : (noL d && noLs ds) = true := n
      rw [Bool.and_eq_true] at n2
      exact .cons (dp_mono e d _ n2.1 h1) (dps_mono e ds _ n2.2 h2)
end
structure Im (K : PySem.W.Frag) (H : Hp) (v : V) (d : PyData) : Prop where
  dp : Dp K H v d
  nl : noL d = true
structure ImAll (K : PySem.W.Frag) (H : Hp) (vs : List V) (ds : List PyData) : Prop where
  dp : DpAll K H vs ds
  nl : noLs ds = true
theorem im_mono {v : V} {d : PyData} (e : TupX H H') (h : Im K H v d) : Im K H' v d := ⟨dp_mono e d v h.nl h.dp, h.nl⟩
theorem ims_mono {v : List V} {d : List PyData} (e : TupX H H') (h : ImAll K H v d) : ImAll K H' v d := ⟨dps_mono e d v h.nl h.dp, h.nl⟩
theorem im_tup {a : Addr} {xs : List V} {ds : List PyData} (h : SqT K H a xs) (q : ImAll K H xs ds) : Im K H (.ref a) (.tuple ds) := ⟨.tup h q.dp, q.nl⟩
theorem ims_nil : ImAll K H [] [] := ⟨.nil, rfl⟩
theorem ims_cons {v : V} {vs : List V} {d : PyData} {ds : List PyData} (h : Im K H v d) (q : ImAll K H vs ds) : ImAll K H (v :: vs) (d :: ds) := ⟨.cons h.dp q.dp, by show (noL d && noLs ds) = true; rw [h.nl, q.nl] <;> rfl⟩
theorem im_str (x : Str) : Im K H (.str x) (.str x) := ⟨.str x, rfl⟩
theorem im_int (i : Int) : Im K H (.int i) (.int i) := ⟨.int i, rfl⟩
theorem im_bl (b : Bool) : Im K H (.bl b) (.bool b) := ⟨.bl b, rfl⟩
theorem ims_app {vs us : List V} {ds es : List PyData} (h : ImAll K H vs ds) (q : ImAll K H us es) : ImAll K H (vs ++ us) (ds ++ es) := by
  obtain ⟨hd, hn⟩ := h
  induction vs generalizing ds with
  | nil => cases hd; exact q
  | cons v vs ih =>
    cases hd with
    | cons h1 h2 =>
      rename_i d ds
      have n2 : (noL d && noLs ds) = true := hn
      rw [Bool.and_eq_true] at n2
      exact ims_cons ⟨h1, n2.1⟩ (ih h2 n2.2)
theorem ims_strs (ss : List Str) : ImAll K H (vS ss) (ss.map .str) := by
  induction ss with
  | nil => exact ims_nil
  | cons x r ih => exact ims_cons (im_str x) ih
theorem ims_len {vs : List V} {ds : List PyData} (h : ImAll K H vs ds) : vs.length = ds.length := by
  obtain ⟨hd, hn⟩ := h
  induction vs generalizing ds with
  | nil => cases hd; rfl
  | cons v vs ih =>
    cases hd with
    | cons h1 h2 =>
      rename_i d ds
      have n2 : (noL d && noLs ds) = true := hn
      rw [Bool.and_eq_true] at n2
      exact congrArg Nat.succ (ih h2 n2.2)
end
end Fl

-- KG2
/-! take, take_word, .., finish -/
namespace Fl
open PySem PySem.Spec PyProof.Rows L2 TL RZ
section
variable {P : Program} {w : World} {K : PySem.W.Frag} {mg : Str → Option Value} {base : Heap}
theorem sqT_extX {K : PySem.W.Frag} {H H' : Hp} {x l a : Addr} {ws : List Str} {n i : Int} {xs : List V} (W : WI K H x l ws n i) (e : ExtX x H H') (h : SqT K H a xs) : SqT K H' a xs := by
  obtain ⟨dx, hx⟩ := W.ob
  rcases h with (h | ⟨o, h⟩) | h
  · exact .inl (.inl (e _ _ (ne_of h hx (by intro z; cases z)) h))
  · exact .inl (.inr ⟨o, e _ _ (ne_of h hx (by intro z; cases z)) h⟩)
  · exact .inr h
theorem flat_vS (ss : List Str) : (vS ss).all flatV = true := by
  rw [List.all_eq_true]
  intro y hy
  obtain ⟨z, _, rfl⟩ := List.mem_map.mp hy
  rfl
theorem inV_vS (x : Str) (ss : List Str) : inV (.str x) (vS ss) = decide (x ∈ ss) := by
  unfold inV
  rw [Bool.eq_iff_iff, List.any_eq_true, decide_eq_true_eq]
  constructor
  · rintro ⟨y, hy, h⟩
    obtain ⟨z, hz, rfl⟩ := List.mem_map.mp hy
    have e : z = x := by simpa [eqV] using h
    rw [← e]
    exact hz
  · intro h
    exact ⟨.str x, List.mem_map_of_mem h, by simp [eqV]⟩
theorem ok_take (T : Tx K mg) : OkM pw w K mg base (L2N.CX pw w) 1 "take" ["self", "found"] (spTake K) := by
  have sc : FnScope ["self", "found"] ["self", "found"] (defScope (inClass (topS 29) 2)) := ⟨rfl, rfl, rfl, by decide +kernel, rfl, by decide +kernel, by decide +kernel⟩
  refine okM T 11 2 1 rfl rfl sc (fun _ _ _ _ _ _ us hl => match us, hl with | [_, _], _ => rfl) (fun vs H Q E ⟨_, e, _⟩ => by rw [e] <;> rfl) fun cdv A outer s H vs Q E hr ⟨⟨q, v⟩, e, hW, hQ, hE⟩ => ?_
  subst e
  refine ⟨_, (pss_cons (ps_if (pt_cmpR op_isN (pv 1) pe_non (nomark _)) (pss_one (L2N.ps_raise rfl (L2N.takes_of rfl rfl rfl rfl) (L2H.PMk5.pmk (pmk5_it T.itT rfl (room1 hr) rfl T.mgIT (pa_cons (pe_fld (pv 0) rfl) (pa_cons (pe_op op_add (pe_fld (pv 0) rfl) (pe_fld (pv 0) rfl)) pa_nil)))))) pss_nil)
 (pss_cons (ps_fldaug (pv 0) pe_int in_add)
 (pss_one (ps_ret (pv 1))))), ?_⟩
  have hW : WI K H q.x q.l q.ws q.n (q.i : Nat) := hW
  obtain ⟨dx, hx⟩ := hW.ob
  refine ⟨_, rfl, rfl, _, rfl, ?_⟩
  refine ite2 (fun h => ?_) (fun h => ?_)
  · have hv : v = .non := of_decide_eq_true h
    refine ⟨_, rfl, q.x, wA K, dx, _, _, rfl, hx, T.cl, T.nLine, rfl, _, rfl, q.x, wA K, dx, _, _, rfl, hx, T.cl, T.nField, rfl, _, rfl, q.x, wA K, dx, _, _, rfl, hx, T.cl, T.nSpot, rfl, _, _, rfl, rfl, _, _, rfl, fun d hd => hE _ _ _ ⟨hv, extX_same (same_upd hd), rfl, d, rfl, ?_⟩⟩
    rw [upd_same]
    exact congrArg (fun z : Int => some (HO.xd (itF (V.int q.n) (V.int z)))) (Int.zero_add _)
  · have hv : v ≠ .non := fun z => h (decide_eq_true z)
    refine ⟨_, rfl, q.x, wA K, dx, _, _, rfl, hx, T.cl, T.nSpot, rfl, _, _, rfl, rfl, dx, _, hx, by show 4 < 1000; decide, _, rfl, ?_⟩
    have e1 : putF ("own_spot" : Str) (V.int ((q.i : Nat) + 1)) (wF q.l q.n (q.i : Nat)) = wF q.l q.n ((q.i + 1 : Nat) : Int) := wF_put _ _ _ _
    refine hQ _ _ ⟨hv, rfl, extX_upd, hW.step extX_upd ⟨dx, ?_⟩⟩
    rw [upd_same]
    exact congrArg (fun z => some (HO.ins (wA K) dx z)) e1
theorem ok_take_word (T : Tx K mg) : OkM pw w K mg base (L2N.CX pw w) 2 "take_word" ["self", "words"] (spTakeWord K) := by
  have sc : FnScope ["self", "words", "word"] ["self", "words"] (defScope (inClass (topS 29) 3)) := ⟨rfl, rfl, rfl, by decide +kernel, rfl, by decide +kernel, by decide +kernel⟩
  refine okM T 12 3 2 rfl rfl sc (fun _ _ _ _ _ _ us hl => match us, hl with | [_, _], _ => rfl) (fun vs H Q E ⟨_, e, _⟩ => by rw [e] <;> rfl) fun cdv A outer s H vs Q E hr ⟨⟨q, a, ss⟩, e, ⟨hW, hS⟩, hQ, hE⟩ => ?_
  subst e
  refine ⟨_, (pss_cons (ps_set (i := 2) sc.nd rfl (Or.inl rfl) (pe_mt0 (pv 0) (ok_word_here T) (hr.mono (by decide)) pass0))
 (pss_one (ps_ret (pe_mt (pv 0) (ok_take T) (hr.mono (by decide)) passN (pa_cons (pe_ifExp (pt_cmpR op_in_seq (pv 2) (pv 1) (by rfl)) (pv 2) pe_non) pa_nil))))), ?_⟩
  have hW : WI K H q.x q.l q.ws q.n (q.i : Nat) := hW
  obtain ⟨dx, hx⟩ := hW.ob
  refine ⟨_, rfl, q.x, dx, _, rfl, hx, rfl, q, rfl, hW, fun r H1 z => ?_⟩
  obtain ⟨rfl, rfl⟩ := z
  refine ⟨_, rfl, q.x, dx, _, rfl, hx, rfl, _, rfl, _, rfl, a, vS ss, rfl, .inr hS, rfl, flat_vS ss, _, rfl, ?_⟩
  rw [if_neg Bool.false_ne_true, inV_vS]
  by_cases h : wat q.ws q.i ∈ ss
  · exact ite_t (decide_eq_true h) ⟨_, rfl, (q, .str (wat q.ws q.i)), rfl, hW, fun r H2 z => hQ _ _ ⟨h, z.2.1, z.2.2⟩, fun c d H2 z => nomatch z.1⟩
  · exact ite_f (decide_eq_false h) ⟨(q, .non), rfl, hW, fun r H2 z => absurd rfl z.1, fun c d H2 z => hE _ _ _ ⟨h, z.2⟩⟩
theorem ok_take_name (T : Tx K mg) : OkM pw w K mg base (L2N.CX pw w) 2 "take_name" ["self"] (spTakeName K) := by
  have sc : FnScope ["self", "word"] ["self"] (defScope (inClass (topS 29) 4)) := ⟨rfl, rfl, rfl, by decide +kernel, rfl, by decide +kernel, by decide +kernel⟩
  refine okM T 13 4 3 rfl rfl sc (fun _ _ _ _ _ _ us hl => match us, hl with | [_], _ => rfl) (fun vs H Q E ⟨_, e, _⟩ => by rw [e] <;> rfl) fun cdv A outer s H vs Q E hr ⟨q, e, hW, hQ, hE⟩ => ?_
  subst e
  refine ⟨_, (pss_cons (ps_set (i := 1) sc.nd rfl (Or.inl rfl) (pe_mt0 (pv 0) (ok_word_here T) (hr.mono (by decide)) pass0))
 (pss_one (ps_ret (pe_mt (pv 0) (ok_take T) (hr.mono (by decide)) passN (pa_cons (pe_ifExp (pt_val (pe_fn (ok_is_name T) (hr.mono (by decide)) pass0 (pa_cons (pv 1) pa_nil))) (pv 1) pe_non) pa_nil))))), ?_⟩
  have hW : WI K H q.x q.l q.ws q.n (q.i : Nat) := hW
  obtain ⟨dx, hx⟩ := hW.ob
  refine ⟨_, rfl, q.x, dx, _, rfl, hx, rfl, q, rfl, hW, fun r H1 z => ?_⟩
  obtain ⟨rfl, rfl⟩ := z
  have hz : (wat q.ws q.i).length ≤ sizeLine := Nat.le_trans (wat_len hW.sz.2 q.i) (by rw [sizeLine_eq]; decide)
  refine ⟨_, rfl, q.x, dx, _, rfl, hx, rfl, _, rfl, wat q.ws q.i, rfl, hz, fun r H2 z => ?_⟩
  obtain ⟨rfl, hs⟩ := z
  refine ⟨_, rfl, ?_⟩
  cases h : nameB (wat q.ws q.i) with
  | true => exact ite_t rfl ⟨_, rfl, (q, .str (wat q.ws q.i)), rfl, hW.same hs, fun r H3 z => hQ _ _ ⟨h, z.2.1, extX_trans (extX_same hs) z.2.2.1, z.2.2.2⟩, fun c d H3 z => nomatch z.1⟩
  | false => exact ite_f rfl ⟨(q, .non), rfl, hW.same hs, fun r H3 z => absurd rfl z.1, fun c d H3 z => hE _ _ _ ⟨h, extX_trans (extX_same hs) z.2.1, z.2.2⟩⟩
theorem ok_take_number (T : Tx K mg) : OkM pw w K mg base (L2N.CX pw w) 2 "take_number" ["self"] (spTakeNumber K) := by
  have sc : FnScope ["self"] ["self"] (defScope (inClass (topS 29) 5)) := ⟨rfl, rfl, rfl, by decide +kernel, rfl, by decide +kernel, by decide +kernel⟩
  refine okM T 14 5 4 rfl rfl sc (fun _ _ _ _ _ _ us hl => match us, hl with | [_], _ => rfl) (fun vs H Q E ⟨_, e, _⟩ => by rw [e] <;> rfl) fun cdv A outer s H vs Q E hr ⟨q, e, hW, hQ, hE⟩ => ?_
  subst e
  refine ⟨_, (pss_one (ps_ret (pe_mt (pv 0) (ok_take T) (hr.mono (by decide)) passN (pa_cons (pe_fn (ok_number_or_none T) (hr.mono (by decide)) pass0 (pa_cons (pe_mt0 (pv 0) (ok_word_here T) (hr.mono (by decide)) pass0) pa_nil)) pa_nil)))), ?_⟩
  have hW : WI K H q.x q.l q.ws q.n (q.i : Nat) := hW
  obtain ⟨dx, hx⟩ := hW.ob
  have hz := wat_len hW.sz.2 q.i
  refine ⟨_, rfl, q.x, dx, _, rfl, hx, rfl, _, rfl, q.x, dx, _, rfl, hx, rfl, q, rfl, hW, fun r H1 z => ?_⟩
  obtain ⟨rfl, rfl⟩ := z
  refine ⟨wat q.ws q.i, rfl, by show _ ≤ _; omega, fun r H2 z => ?_⟩
  obtain ⟨rfl, hs⟩ := z
  cases h : numO (wat q.ws q.i) with
  | some n => exact ⟨(q, .int n), rfl, hW.same hs, fun r H3 z => hQ _ _ ⟨⟨n, h, z.2.1⟩, extX_trans (extX_same hs) z.2.2.1, z.2.2.2⟩, fun c d H3 z => nomatch z.1⟩
  | none => exact ⟨(q, .non), rfl, hW.same hs, fun r H3 z => absurd rfl z.1, fun c d H3 z => hE _ _ _ ⟨h, extX_trans (extX_same hs) z.2.1, z.2.2⟩⟩
theorem ok_take_count (T : Tx K mg) : OkM pw w K mg base (L2N.CX pw w) 4 "take_count" ["self"] (spTakeCount K) := by
  have sc : FnScope ["self"] ["self"] (defScope (inClass (topS 29) 6)) := ⟨rfl, rfl, rfl, by decide +kernel, rfl, by decide +kernel, by decide +kernel⟩
  refine okM T 15 6 5 rfl rfl sc (fun _ _ _ _ _ _ us hl => match us, hl with | [_], _ => rfl) (fun vs H Q E ⟨_, e, _⟩ => by rw [e] <;> rfl) fun cdv A outer s H vs Q E hr ⟨q, e, hW, hQ, hE⟩ => ?_
  subst e
  refine ⟨_, (pss_one (ps_ret (pe_mt (pv 0) (ok_take T) (hr.mono (by decide)) passN (pa_cons (pe_fn (ok_count_or_none T) (hr.mono (by decide)) pass0 (pa_cons (pe_mt0 (pv 0) (ok_word_here T) (hr.mono (by decide)) pass0) pa_nil)) pa_nil)))), ?_⟩
  have hW : WI K H q.x q.l q.ws q.n (q.i : Nat) := hW
  obtain ⟨dx, hx⟩ := hW.ob
  have hz := wat_len hW.sz.2 q.i
  refine ⟨_, rfl, q.x, dx, _, rfl, hx, rfl, _, rfl, q.x, dx, _, rfl, hx, rfl, q, rfl, hW, fun r H1 z => ?_⟩
  obtain ⟨rfl, rfl⟩ := z
  refine ⟨wat q.ws q.i, rfl, by show _ ≤ _; omega, fun r H2 z => ?_⟩
  obtain ⟨rfl, hs⟩ := z
  cases h : cntO (wat q.ws q.i) with
  | some n => exact ⟨(q, .int n), rfl, hW.same hs, fun r H3 z => hQ _ _ ⟨⟨n, h, z.2.1⟩, extX_trans (extX_same hs) z.2.2.1, z.2.2.2⟩, fun c d H3 z => nomatch z.1⟩
  | none => exact ⟨(q, .non), rfl, hW.same hs, fun r H3 z => absurd rfl z.1, fun c d H3 z => hE _ _ _ ⟨h, extX_trans (extX_same hs) z.2.1, z.2.2⟩⟩
theorem ok_take_table (T : Tx K mg) : OkM pw w K mg base (L2N.CX pw w) 4 "take_table" ["self"] (spTakeTable K) := by
  have sc : FnScope ["self"] ["self"] (defScope (inClass (topS 29) 7)) := ⟨rfl, rfl, rfl, by decide +kernel, rfl, by decide +kernel, by decide +kernel⟩
  refine okM T 16 7 6 rfl rfl sc (fun _ _ _ _ _ _ us hl => match us, hl with | [_], _ => rfl) (fun vs H Q E ⟨_, e, _⟩ => by rw [e] <;> rfl) fun cdv A outer s H vs Q E hr ⟨q, e, hW, hQ, hE⟩ => ?_
  subst e
  refine ⟨_, (pss_one (ps_ret (pe_mt (pv 0) (ok_take T) (hr.mono (by decide)) passN (pa_cons (pe_fn (ok_table_or_none T) (hr.mono (by decide)) pass0 (pa_cons (pe_mt0 (pv 0) (ok_word_here T) (hr.mono (by decide)) pass0) pa_nil)) pa_nil)))), ?_⟩
  have hW : WI K H q.x q.l q.ws q.n (q.i : Nat) := hW
  obtain ⟨dx, hx⟩ := hW.ob
  have hz := wat_len hW.sz.2 q.i
  refine ⟨_, rfl, q.x, dx, _, rfl, hx, rfl, _, rfl, q.x, dx, _, rfl, hx, rfl, q, rfl, hW, fun r H1 z => ?_⟩
  obtain ⟨rfl, rfl⟩ := z
  refine ⟨wat q.ws q.i, rfl, hz, fun r H2 z => ?_⟩
  obtain ⟨hr2, hs⟩ := z
  cases h : tblB (wat q.ws q.i) with
  | true =>
    rw [if_pos h] at hr2
    obtain ⟨a, rfl, hT⟩ := hr2
    exact ⟨(q, .ref a), rfl, hW.same hs, fun r H3 z => hQ _ _ ⟨h, ⟨a, z.2.1, sqT_extX (hW.same hs) z.2.2.1 hT⟩, extX_trans (extX_same hs) z.2.2.1, z.2.2.2⟩, fun c d H3 z => nomatch z.1⟩
  | false =>
    rw [if_neg (by rw [h]; decide)] at hr2
    subst hr2
    exact ⟨(q, .non), rfl, hW.same hs, fun r H3 z => absurd rfl z.1, fun c d H3 z => hE _ _ _ ⟨h, extX_trans (extX_same hs) z.2.1, z.2.2⟩⟩
theorem ok_take_numbers (T : Tx K mg) : OkM pw w K mg base (L2N.CX pw w) 5 "take_numbers" ["self"] (spTakeNumbers K) := by
  have sc : FnScope ["self"] ["self"] (defScope (inClass (topS 29) 8)) := ⟨rfl, rfl, rfl, by decide +kernel, rfl, by decide +kernel, by decide +kernel⟩
  refine okM T 17 8 7 rfl rfl sc (fun _ _ _ _ _ _ us hl => match us, hl with | [_], _ => rfl) (fun vs H Q E ⟨_, e, _⟩ => by rw [e] <;> rfl) fun cdv A outer s H vs Q E hr ⟨q, e, hW, hQ, hE⟩ => ?_
  subst e
  refine ⟨_, (pss_one (ps_ret (pe_mt (pv 0) (ok_take T) (hr.mono (by decide)) passN (pa_cons (pe_fn (ok_numbers_or_none T) (hr.mono (by decide)) pass0 (pa_cons (pe_mt0 (pv 0) (ok_word_here T) (hr.mono (by decide)) pass0) pa_nil)) pa_nil)))), ?_⟩
  have hW : WI K H q.x q.l q.ws q.n (q.i : Nat) := hW
  obtain ⟨dx, hx⟩ := hW.ob
  have hz := wat_len hW.sz.2 q.i
  refine ⟨_, rfl, q.x, dx, _, rfl, hx, rfl, _, rfl, q.x, dx, _, rfl, hx, rfl, q, rfl, hW, fun r H1 z => ?_⟩
  obtain ⟨rfl, rfl⟩ := z
  refine ⟨wat q.ws q.i, rfl, hz, fun r H2 z => ?_⟩
  obtain ⟨hr2, hs⟩ := z
  cases h : nmsB (wat q.ws q.i) with
  | true =>
    rw [if_pos h] at hr2
    obtain ⟨a, rfl, hT⟩ := hr2
    exact ⟨(q, .ref a), rfl, hW.same hs, fun r H3 z => hQ _ _ ⟨h, ⟨a, z.2.1, sqT_extX (hW.same hs) z.2.2.1 hT⟩, extX_trans (extX_same hs) z.2.2.1, z.2.2.2⟩, fun c d H3 z => nomatch z.1⟩
  | false =>
    rw [if_neg (by rw [h]; decide)] at hr2
    subst hr2
    exact ⟨(q, .non), rfl, hW.same hs, fun r H3 z => absurd rfl z.1, fun c d H3 z => hE _ _ _ ⟨h, extX_trans (extX_same hs) z.2.1, z.2.2⟩⟩
theorem ok_finish (T : Tx K mg) : OkM pw w K mg base (L2N.CX pw w) 2 "finish" ["self"] (spFinish K) := by
  have sc : FnScope ["self"] ["self"] (defScope (inClass (topS 29) 9)) := ⟨rfl, rfl, rfl, by decide +kernel, rfl, by decide +kernel, by decide +kernel⟩
  refine okM T 18 9 8 rfl rfl sc (fun _ _ _ _ _ _ us hl => match us, hl with | [_], _ => rfl) (fun vs H Q E ⟨_, e, _⟩ => by rw [e] <;> rfl) fun cdv A outer s H vs Q E hr ⟨q, e, hW, hQ, hE⟩ => ?_
  subst e
  refine ⟨_, (pss_one (ps_if (pt_cmpR op_lt (pe_fld (pv 0) rfl) (pe_callB call_len rfl (T.bl (x := "len")) (by decide +kernel) (pa_cons (pe_fld (pv 0) rfl) pa_nil)) (nomark _)) (pss_one (ps_expr (pe_mt (pv 0) (ok_take T) (hr.mono (by decide)) passN (pa_cons pe_non pa_nil)))) pss_nil)), ?_⟩
  have hW : WI K H q.x q.l q.ws q.n (q.i : Nat) := hW
  obtain ⟨dx, hx⟩ := hW.ob
  refine ⟨_, rfl, q.x, wA K, dx, _, _, rfl, hx, T.cl, T.nSpot, rfl, _, rfl, q.x, wA K, dx, _, _, rfl, hx, T.cl, T.nWords, rfl, _, _, rfl, .inl ⟨_, SqL.of hW.ls, rfl⟩, _, _, rfl, rfl, _, rfl, ?_⟩
  by_cases h : q.i < q.ws.length
  · exact ite_t (decide_eq_true (by rw [List.length_map]; omega)) ⟨_, rfl, q.x, dx, _, rfl, hx, rfl, (q, .non), rfl, hW, fun r H3 z => absurd rfl z.1, fun c d H3 z => hE _ _ _ ⟨h, z.2⟩⟩
  · exact ite_f (decide_eq_false (by rw [List.length_map]; omega)) (hQ _ _ ⟨by omega, rfl, rfl⟩)
end
end Fl

-- KH1
/-! objects of words made; taken_kind, taken_store -/
namespace Fl
open PySem PySem.Spec PyProof.Rows L2 TL RZ
abbrev spInit (K : PySem.W.Frag) : Sp := Pr (fun q : Addr × Addr × Str × Int => [.ref q.1, .str q.2.2.1, .int q.2.2.2, .int 0]) (fun q H => H q.1 = some (.ins (wA K) q.2.1 []) ∧ q.2.2.1.length ≤ 90000 ∧ ∀ z ∈ wds q.2.2.1, z.length ≤ 900)
  (fun q H r H' => r = .non ∧ ExtX q.1 H H' ∧ ∃ l, H l = none ∧ WI K H' q.1 l (wds q.2.2.1) q.2.2.2 0)
structure OkI (P : Program) (w : World) (K : PySem.W.Frag) (mg : Str → Option Value) (base : Heap) (k : Nat) : Prop where
  ex : ∃ fd ds, mg "Words" = some (.ref (wA K)) ∧ Mk K (wA K) (He.ma K (wA K) "__init__") ∧ Binds K fd ["self", "text", "line", "field"] ds ∧ Vals [V.int 0] ds ∧ FnOk P w K mg base CX0 k (He.ma K (wA K) "__init__") fd ["self", "text", "line", "field"] (spInit K)
theorem spc_len : (spcS.length == 0) = false := by decide +kernel
section
variable {P : Program} {w : World} {K : PySem.W.Frag} {mg : Str → Option Value} {base : Heap}
theorem ok_init (T : Tx K mg) : OkI P w K mg base 1 := by
  have sc : FnScope ["self", "text", "line", "field"] ["self", "text", "line", "field"] (defScope (inClass (topS 29) 0)) := ⟨rfl, rfl, rfl, by decide +kernel, rfl, by decide +kernel, by decide +kernel⟩
  obtain ⟨fd, F⟩ := T.mt 9 0 (m := "__init__") (q := "Words.__init__") (dv := [.int 0]) rfl
  obtain ⟨ds, hv, hb⟩ := FunD.binds1 (ps := ["self", "text", "line", "field"]) F 3 0 (by intro z; cases z) rfl fun Ta kV doc pm an cdv ct us its h1 h2 => match us, its, h1, h2 with
    | [_, _, _], [_], _, _ => ⟨_, rfl, rfl⟩
  refine ⟨fd, ds, T.mgWords, T.mkr, hb, hv, F.ok sc (fun vs H Q E ⟨_, e, _⟩ => by rw [e] <;> rfl) fun cdv A outer s H vs Q E hr ⟨⟨x, dx, z, n⟩, e, ⟨hx, hz, hw⟩, hQ⟩ => ?_⟩
  subst e
  refine ⟨_, PSs.nox (pss_cons (ps_fld (pv 0) (pe_split (pv 1) pe_str) rfl)
 (pss_cons (ps_fld (pv 0) (pv 2) rfl)
 (pss_cons (ps_fld (pv 0) (pv 3) rfl)
 (pss_one (ps_fld (pv 0) pe_int rfl))))), ?_⟩
  have hx : H x = some (.ins (wA K) dx []) := hx
  have hz : z.length ≤ 90000 := hz
  have hS : 200000 ≤ sizeLine := by rw [sizeLine_eq]; decide
  refine ⟨_, rfl, ⟨_, rfl⟩, _, _, rfl, rfl, spc_len, by omega, fun l hl => ?_⟩
  have hlx : x ≠ l := ne_of_none hx hl
  have hx1 : (upd H l (.lst (vS (wds z)))) x = some (.ins (wA K) dx []) := by rw [upd_ne hlx]; exact hx
  refine ⟨_, rfl, x, wA K, dx, _, rfl, hx1, T.cl, T.nWords, by show 0 < 1000; decide, ?_⟩
  refine ⟨_, rfl, _, rfl, x, wA K, dx, _, rfl, upd_same, T.cl, T.nLine, by show 1 < 1000; decide, ?_⟩
  refine ⟨_, rfl, _, rfl, x, wA K, dx, _, rfl, upd_same, T.cl, T.nField, by show 2 < 1000; decide, ?_⟩
  refine ⟨_, rfl, x, wA K, dx, _, rfl, upd_same, T.cl, T.nSpot, by show 3 < 1000; decide, ?_⟩
  rw [upd_upd, upd_upd, upd_upd]
  refine hQ _ _ ⟨rfl, fun b o nb hb => by rw [upd_ne nb]; exact same_upd hl b o hb, l, hl, ⟨dx, ?_⟩, ?_, ?_, hw⟩
  · rw [upd_same]
    have e1 : putF ("own_spot" : Str) (V.int 0) (putF ("own_field" : Str) (V.int 0) (putF ("own_line" : Str) (V.int n) (putF ("own_words" : Str) (V.ref l) []))) = wF l n 0 := by
      have a1 : ¬ (Str.ofString "own_words" = Str.ofString "own_line") := by decide +kernel
      have a2 : ¬ (Str.ofString "own_words" = Str.ofString "own_field") := by decide +kernel
      have a3 : ¬ (Str.ofString "own_words" = Str.ofString "own_spot") := by decide +kernel
      have a4 : ¬ (Str.ofString "own_line" = Str.ofString "own_field") := by decide +kernel
      have a5 : ¬ (Str.ofString "own_line" = Str.ofString "own_spot") := by decide +kernel
      have a6 : ¬ (Str.ofString "own_field" = Str.ofString "own_spot") := by decide +kernel
      simp only [putF, wF, a1, a2, a3, a4, a5, a6, if_false]
    exact congrArg (fun q => some (HO.ins (wA K) dx q)) e1
  · rw [upd_ne (Ne.symm hlx), upd_same] <;> rfl
  · have := wds_len z
    show (wds z).length ≤ 100000
    omega
end
section
variable {X : Cx} {k : Nat} {E : XK} {e e2 : Expr} {p pos : Pos} {t : TA}
/-- Words(text, line) -/
def tWds (K : PySem.W.Frag) (t : TA) : TE := fun σ H Q => t σ H fun vs H1 => ∃ z n, vs = [.str z, .int n] ∧ z.length ≤ 90000 ∧ (∀ y ∈ wds z, y.length ≤ 900) ∧ ∀ x l H2, Same H1 H2 → H1 x = none → H1 l = none → WI K H2 x l (wds z) n 0 → Q (.ref x) H2
theorem pe_wds (G : OkI X.prog X.w X.K X.mg X.base k) (hr : Room (k + 1) X.A) (ha : PA X (e :: [e2]) t) (hg : Gl X "Words" := by rfl)
    (he : starEach (e :: [e2]) X.env = (false, eval e X.env) :: starEach [e2] X.env := by rfl) (hpl : (backTo pos (starEach [e2] X.env)).any (·.1) = false := by rfl) : PE X (.Call (.Name "Words" p) (e :: [e2]) [] pos) (tWds X.K t) := by
  obtain ⟨fd, ds, hm, mk, hb, hv, F⟩ := G.ex
  have e1 : ∀ (Q : VK) (vs : List V) (H1 : Hp), (∃ z n, vs = [.str z, .int n] ∧ z.length ≤ 90000 ∧ (∀ y ∈ wds z, y.length ≤ 900) ∧ ∀ x l H2, Same H1 H2 → H1 x = none → H1 l = none → WI X.K H2 x l (wds z) n 0 → Q (.ref x) H2) →
      ∀ x dx, H1 x = none → H1 dx = none → dx ≠ x → spInit X.K (.ref x :: (vs ++ [V.int 0])) (upd (upd H1 dx (.own x)) x (.ins (wA X.K) dx [])) (fun v H2 => v = .non ∧ Q (.ref x) H2) E0 := by
    rintro Q _ H1 ⟨z, n, rfl, hz, hw, q⟩ x dx hx hdx hne
    refine ⟨(x, dx, z, n), rfl, ⟨upd_same, hz, hw⟩, fun r H' h => ⟨h.1, ?_⟩⟩
    obtain ⟨_, ex, l, hl, W⟩ := h
    have hlx : l ≠ x := fun z => by
      rw [z, upd_same] at hl
      cases hl
    have hld : l ≠ dx := fun z => by
      rw [z, upd_ne hne, upd_same] at hl
      cases hl
    rw [upd_ne hlx, upd_ne hld] at hl
    refine q x l H' (fun b o hb => ?_) hx hl W
    have n1 : b ≠ x := ne_of_none hb hx
    exact ex b o n1 (by rw [upd_ne n1, upd_ne (ne_of_none hb hdx)]; exact hb)
  constructor
  intro pins s σ H Q I h
  refine wpAny_Call_Name_kw (ld_glob (x := "Words") I hg hm ?_ (by decide))
  have args := fun Q1 => ha.run pos pins s σ H Q1 I
  refine PySem.W.callWith_K (h₀ := X.base) I.ok.mod.kin mk.kp ?_ he hpl
  exact thn (args _ h) fun us s1 q => by
    obtain ⟨vs, H1, I1, r, q1⟩ := q
    exact ⟨I1.kIn, run_make (E := E0) mk F hr hb hv pass0 I1 r (e1 Q vs H1 q1)⟩
end
section
variable {P : Program} {w : World} {K : PySem.W.Frag} {mg : Str → Option Value} {base : Heap}
abbrev spTakenKind (K : PySem.W.Frag) : Sp := PrE (fun q : WQ => [.ref q.x]) (fun q H => q.ok K H ∧ q.i = 1) (fun q H r H' => spotF kindC q.ws 1 = none ∧ Im K H' r (kindD q.ws) ∧ ExtX q.x H H')
  (fun q H c d H' => ∃ s : Nat, spotF kindC q.ws 1 = some s ∧ ExtX q.x H H' ∧ ItX K q.n (s : Nat) c d H')
abbrev spTakenStore (K : PySem.W.Frag) : Sp := PrE (fun q : WQ => [.ref q.x]) (fun q H => q.ok K H) (fun q H r H' => nameB (wat q.ws q.i) = true ∧ cNum (wat q.ws (q.i + 1)) = true ∧ Im K H' r (storeD q.ws q.i) ∧ ExtX q.x H H' ∧ WI K H' q.x q.l q.ws q.n ((q.i + 2 : Nat) : Int))
  (fun q H c d H' => ∃ s : Nat, runF [nameB, cNum] q.ws q.i = some s ∧ ExtX q.x H H' ∧ ItX K q.n (s : Nat) c d H')
theorem extX_upd2 {x : Addr} {H H' : Hp} {p : Addr} {o : HO} (e : ExtX x H H') (hp : H' p = none) : ExtX x H (upd H' p o) := extX_trans e (extX_same (same_upd hp))
theorem num_val {z : Str} {n : Int} (h : numO z = some n) : n = valN z := by
  unfold numO at h
  by_cases q : numB z = true
  · rw [if_pos q] at h
    exact (Option.some.inj h).symm
  · rw [if_neg q] at h
    cases h
theorem cnt_val {z : Str} {n : Int} (h : cntO z = some n) : n = valN z := by
  unfold cntO at h
  by_cases q : cntB (numO z) = true
  · rw [if_pos q] at h
    exact num_val h
  · rw [if_neg q] at h
    cases h
theorem tupX_WI {K : PySem.W.Frag} {H H' : Hp} {x l : Addr} {ws : List Str} {n i : Int} (W : WI K H x l ws n i) (e : ExtX x H H') : TupX H H' := fun b xs h => by
  obtain ⟨dx, hx⟩ := W.ob
  rcases h with h | ⟨o, h⟩
  · exact .inl (e _ _ (ne_of h hx (by intro z; cases z)) h)
  · exact .inr ⟨o, e _ _ (ne_of h hx (by intro z; cases z)) h⟩
theorem ok_taken_store (T : Tx K mg) : OkF pw w K mg base (L2N.CX pw w) 3 "taken_store" ["words"] (spTakenStore K) := by
  have sc : FnScope ["words", "name"] ["words"] (defScope (topS 36)) := ⟨rfl, rfl, rfl, by decide +kernel, rfl, by decide +kernel, by decide +kernel⟩
  refine okF T 21 36 rfl sc (fun _ _ _ _ _ _ us hl => match us, hl with | [_], _ => rfl) (fun vs H Q E ⟨_, e, _⟩ => by rw [e] <;> rfl) fun cdv A outer s H vs Q E hr ⟨⟨x, l, ws, n, i⟩, e, W0, hQ, hE⟩ => ?_
  subst e
  refine ⟨_, (pss_cons (ps_set (i := 1) sc.nd rfl (Or.inl rfl) (pe_mt0 (pv 0) (ok_take_name T) (hr.mono (by decide)) passN))
 (pss_one (ps_ret (pe_tup (pa_cons (pv 1) (pa_cons (pe_mt0 (pv 0) (ok_take_number T) (hr.mono (by decide)) passN) pa_nil)))))), ?_⟩
  have W0 : WI K H x l ws n (i : Nat) := W0
  obtain ⟨dx, hx⟩ := W0.ob
  refine ⟨_, rfl, x, dx, _, rfl, hx, rfl, ⟨x, l, ws, n, i⟩, rfl, W0, fun r H1 z => ?_, fun c d H1 z => hE _ _ _ ⟨i, by simp only [runF, z.1]; rfl, z.2⟩⟩
  obtain ⟨hn, rfl, e1, W1⟩ := z
  have hn : nameB (wat ws i) = true := hn
  obtain ⟨dx1, hx1⟩ := W1.ob
  refine ⟨_, rfl, _, rfl, x, dx1, _, rfl, hx1, rfl, ⟨x, l, ws, n, i + 1⟩, rfl, W1, fun r H2 z => ?_, fun c d H2 z => hE _ _ _ ⟨i + 1, ?_, extX_trans e1 z.2.1, z.2.2⟩⟩
  · obtain ⟨⟨y, hy, rfl⟩, e2, W2⟩ := z
    have hy : numO (wat ws (i + 1)) = some y := hy
    refine ⟨by show 2 ≤ _; rw [sizeLine_eq]; decide, fun p hp => hQ _ _ ⟨hn, by show (numO _).isSome = true; rw [hy] <;> rfl, ?_, extX_upd2 (extX_trans e1 e2) hp, WI.same W2 (same_upd hp)⟩⟩
    rw [num_val hy]
    exact im_tup (SqT.of upd_same) (ims_cons (im_str _) (ims_cons (im_int _) ims_nil))
  · have hz : numO (wat ws (i + 1)) = none := z.1
    show runF [nameB, cNum] ws i = _
    simp only [runF, hn, cNum, hz]
    rfl
theorem ok_taken_kind (T : Tx K mg) : OkF pw w K mg base (L2N.CX pw w) 5 "taken_kind" ["words"] (spTakenKind K) := by
  have sc : FnScope ["words", "name", "fee", "has", "found"] ["words"] (defScope (topS 32)) := ⟨rfl, rfl, rfl, by decide +kernel, rfl, by decide +kernel, by decide +kernel⟩
  refine okF T 19 32 rfl sc (fun _ _ _ _ _ _ us hl => match us, hl with | [_], _ => rfl) (fun vs H Q E ⟨_, e, _⟩ => by rw [e] <;> rfl) fun cdv A outer s H vs Q E hr ⟨⟨x, l, ws, n, i⟩, e, ⟨W0, hi⟩, hQ, hE⟩ => ?_
  subst e
  have hi : i = 1 := hi
  subst hi
  refine ⟨_, (pss_cons (ps_set (i := 1) sc.nd rfl (Or.inl rfl) (pe_mt0 (pv 0) (ok_take_name T) (hr.mono (by decide)) passN))
 (pss_cons (ps_set (i := 2) sc.nd rfl (Or.inl rfl) (pe_mt0 (pv 0) (ok_take_count T) (hr.mono (by decide)) passN))
 (pss_cons (ps_set (i := 3) sc.nd rfl (Or.inl rfl) (pe_cmpR op_eq (pe_mt (pv 0) (ok_take_word T) (hr.mono (by decide)) passN (pa_cons (pe_tup (pa_cons pe_str (pa_cons pe_str pa_nil))) pa_nil)) pe_str (nomark _)))
 (pss_cons (ps_set (i := 4) sc.nd rfl (Or.inl rfl) (pe_tup (pa_cons (pv 1) (pa_cons (pv 2) (pa_cons (pv 3) (pa_cons (pe_mt0 (pv 0) (ok_take_table T) (hr.mono (by decide)) passN) pa_nil))))))
 (pss_cons (ps_expr (pe_mt0 (pv 0) (ok_finish T) (hr.mono (by decide)) passN))
 (pss_one (ps_ret (pv 4)))))))), ?_⟩
  have W0 : WI K H x l ws n ((1 : Nat) : Int) := W0
  obtain ⟨dx, hx⟩ := W0.ob
  refine ⟨_, rfl, x, dx, _, rfl, hx, rfl, ⟨x, l, ws, n, 1⟩, rfl, W0, fun r H1 z => ?_, fun c d H1 z => hE _ _ _ ⟨1, ?_, z.2⟩⟩
  rotate_left
  · have z1 : nameB (wat ws 1) = false := z.1
    show spotF kindC ws 1 = _
    simp only [kindC, spotF, z1]
    rfl
  obtain ⟨hn, rfl, e1, W1⟩ := z
  have hn : nameB (wat ws 1) = true := hn
  obtain ⟨dx1, hx1⟩ := W1.ob
  refine ⟨_, rfl, x, dx1, _, rfl, hx1, rfl, ⟨x, l, ws, n, 2⟩, rfl, W1, fun r H2 z => ?_, fun c d H2 z => hE _ _ _ ⟨2, ?_, extX_trans e1 z.2.1, z.2.2⟩⟩
  rotate_left
  · have z1 : cntO (wat ws 2) = none := z.1
    show spotF kindC ws 1 = _
    simp only [kindC, spotF, hn, cFee, z1]
    rfl
  obtain ⟨⟨y, hy, rfl⟩, e2, W2⟩ := z
  have hy : cntO (wat ws 2) = some y := hy
  obtain ⟨dx2, hx2⟩ := W2.ob
  refine ⟨_, rfl, x, dx2, _, rfl, hx2, rfl, by show 2 ≤ _; rw [sizeLine_eq]; decide, fun p hp => ?_⟩
  have W3 := WI.same W2 (same_upd (o := .tup [V.str "has", V.str "not"]) hp)
  have e3 := extX_upd2 (o := .tup [V.str "has", V.str "not"]) (extX_trans e1 e2) hp
  refine ⟨(⟨x, l, ws, n, 3⟩, p, ["has", "not"]), rfl, ⟨W3, SqT.of upd_same⟩, fun r H3 z => ?_, fun c d H3 z => hE _ _ _ ⟨3, ?_, extX_trans e3 z.2.1, z.2.2⟩⟩
  rotate_left
  · have z1 : wat ws 3 ∉ (["has", "not"] : List Str) := z.1
    show spotF kindC ws 1 = _
    simp only [kindC, spotF, hn, cFee, hy, cHas, decide_eq_false z1]
    rfl
  obtain ⟨hh, rfl, e4, W4⟩ := z
  have hh : wat ws 3 ∈ (["has", "not"] : List Str) := hh
  have e5 := extX_trans e3 e4
  obtain ⟨dx4, hx4⟩ := W4.ob
  refine ⟨rfl, _, rfl, _, rfl, _, rfl, _, rfl, x, dx4, _, rfl, hx4, rfl, ⟨x, l, ws, n, 4⟩, rfl, W4, fun r H4 z => ?_, fun c d H4 z => hE _ _ _ ⟨4, ?_, extX_trans e5 z.2.1, z.2.2⟩⟩
  rotate_left
  · have z1 : tblB (wat ws 4) = false := z.1
    show spotF kindC ws 1 = _
    simp only [kindC, spotF, hn, cFee, hy, cHas, decide_eq_true hh, z1]
    rfl
  obtain ⟨ht, ⟨a, rfl, hT⟩, e6, W6⟩ := z
  have ht : tblB (wat ws 4) = true := ht
  refine ⟨by show 4 ≤ _; rw [sizeLine_eq]; decide, fun f hf => ?_⟩
  have e7 := extX_upd2 (o := .tup [V.str (wat ws 1), V.int y, V.bl (decide (V.str (wat ws 3) = V.str ("has" : Str))), V.ref a]) (extX_trans e5 e6) hf
  have W7 := WI.same W6 (same_upd (o := .tup [V.str (wat ws 1), V.int y, V.bl (decide (V.str (wat ws 3) = V.str ("has" : Str))), V.ref a]) hf)
  obtain ⟨dx7, hx7⟩ := W7.ob
  refine ⟨_, rfl, x, dx7, _, rfl, hx7, rfl, ⟨x, l, ws, n, 5⟩, rfl, W7, fun r H5 z => ?_, fun c d H5 z => hE _ _ _ ⟨5, ?_, extX_trans e7 z.2.1, z.2.2⟩⟩
  rotate_left
  · have z1 : 5 < ws.length := z.1
    show spotF kindC ws 1 = _
    simp only [kindC, spotF, hn, cFee, hy, cHas, decide_eq_true hh, ht]
    show (if ws.length ≤ 5 then none else some 5) = some 5
    rw [if_neg (by omega)]
  obtain ⟨h5, rfl, rfl⟩ := z
  have h5 : ws.length ≤ 5 := h5
  refine ⟨_, rfl, hQ _ _ ⟨?_, ?_, e7⟩⟩
  · show spotF kindC ws 1 = _
    simp only [kindC, spotF, hn, cFee, hy, cHas, decide_eq_true hh, ht]
    show (if ws.length ≤ 5 then none else some 5) = none
    rw [if_pos h5]
  · have hT2 : SqT K (upd H4 f (.tup [V.str (wat ws 1), V.int y, V.bl (decide (V.str (wat ws 3) = V.str ("has" : Str))), V.ref a])) a (vS (tblP (wat ws 4))) := sqT_same (same_upd hf) hT
    have ed : decide (V.str (wat ws 3) = V.str ("has" : Str)) = decide (wat ws 3 = ("has" : Str)) := decide_eq_decide.mpr ⟨V.str.inj, fun q => by rw [q]⟩
    have z := im_tup (SqT.of upd_same) (ims_cons (im_str (K := K) (wat ws 1)) (ims_cons (im_int y) (ims_cons (im_bl (decide (V.str (wat ws 3) = V.str ("has" : Str)))) (ims_cons (im_tup hT2 (ims_strs _)) ims_nil))))
    rw [ed, cnt_val hy] at z
    rw [cnt_val hy, ed]
    exact z
end
end Fl

-- KH2
/-! event_read, read_event -/
namespace Fl
open PySem PySem.Spec PyProof.Rows L2 TL RZ
theorem same_extX {x : Addr} {H H1 H' : Hp} (hx : H x = none) (a : Same H H1) (e : ExtX x H1 H') : Same H H' := fun b o h => e b o (ne_of_none h hx) (a b o h)
/-- a text that can be read -/
def TxtOk (z : Str) : Prop := z.length ≤ 90000 ∧ ∀ y ∈ wds z, y.length ≤ 900
abbrev spEventRead (K : PySem.W.Frag) : Sp := PrE (fun q : Str × Nat => [.str q.1, .int (q.2 : Nat)]) (fun q H => TxtOk q.1) (fun q H r H' => evSpot (wds q.1) = none ∧ Im K H' r (evD (wds q.1)) ∧ Same H H')
  (fun q H c d H' => ∃ s : Nat, evSpot (wds q.1) = some s ∧ Same H H' ∧ ItX K (q.2 : Nat) (s : Nat) c d H')
abbrev spReadEvent (K : PySem.W.Frag) : Sp := PrE (fun q : Str => [.str q]) (fun q H => TxtOk q) (fun q H r H' => evSpot (wds q) = none ∧ Im K H' r (evD (wds q)) ∧ Same H H')
  (fun q H c d H' => ∃ s : Nat, evSpot (wds q) = some s ∧ Same H H' ∧ ItX K 0 (s : Nat) c d H')
theorem run2_spot {ws : List Str} {i s : Nat} {r : List Can} (h : runF [nameB, cNum] ws i = some s) : spotF (nameB :: cNum :: r) ws i = some s := by
  simp only [runF, spotF] at h ⊢
  by_cases h1 : nameB (wat ws i) = true
  · rw [if_pos h1] at h ⊢
    by_cases h2 : cNum (wat ws (i + 1)) = true
    · rw [if_pos h2] at h
      cases h
    · rw [if_neg h2] at h ⊢
      exact h
  · rw [if_neg h1] at h ⊢
    exact h
theorem run2_go {ws : List Str} {i : Nat} {r : List Can} (h1 : nameB (wat ws i) = true) (h2 : cNum (wat ws (i + 1)) = true) : spotF (nameB :: cNum :: r) ws i = spotF r ws (i + 2) := by
  simp only [spotF, h1, h2, if_true]
section
variable {P : Program} {w : World} {K : PySem.W.Frag} {mg : Str → Option Value} {base : Heap}
theorem ok_event_read (T : Tx K mg) : OkF pw w K mg base (L2N.CX pw w) 4 "event_read" ["text", "line"] (spEventRead K) := by
  have sc : FnScope ["text", "line", "words", "sender", "event"] ["text", "line"] (defScope (topS 37)) := ⟨rfl, rfl, rfl, by decide +kernel, rfl, by decide +kernel, by decide +kernel⟩
  refine okF T 22 37 rfl sc (fun _ _ _ _ _ _ us hl => match us, hl with | [_, _], _ => rfl) (fun vs H Q E ⟨_, e, _⟩ => by rw [e] <;> rfl) fun cdv A outer s H vs Q E hr ⟨⟨z, k⟩, e, ⟨hz, hw⟩, hQ, hE⟩ => ?_
  subst e
  refine ⟨_, (pss_cons (ps_set (i := 2) sc.nd rfl (Or.inl rfl) (pe_wds (ok_init T) (hr.mono (by decide)) (pa_cons (pv 0) (pa_cons (pv 1) pa_nil))))
 (pss_cons (ps_match (pe_mt (pv 2) (ok_take_word T) (hr.mono (by decide)) passN (pa_cons (pe_glob (v := .ref (He.ga K "EVENT_WORDS")) rfl (T.tup T.tups.2.2.1).1 rfl) pa_nil)) (pm_str (pss_cons (ps_set (i := 3) sc.nd rfl (Or.inl rfl) (pe_fn (ok_taken_store T) (hr.mono (by decide)) passN (pa_cons (pv 2) pa_nil)))
 (pss_one (ps_set (i := 4) sc.nd rfl (Or.inl rfl) (pe_tup (pa_cons pe_str (pa_cons (pv 3) (pa_cons (pe_fn (ok_taken_store T) (hr.mono (by decide)) passN (pa_cons (pv 2) pa_nil)) pa_nil)))))))
 (pm_str (pss_one (ps_set (i := 4) sc.nd rfl (Or.inl rfl) (pe_tup (pa_cons pe_str (pa_cons (pe_mt (pv 2) (ok_take_word T) (hr.mono (by decide)) passN (pa_cons (pe_glob (v := .ref (He.ga K "GUARD_WORDS")) rfl (T.tup T.tups.1).1 rfl) pa_nil)) pa_nil)))))
 (pm_any (pss_one (ps_set (i := 4) sc.nd rfl (Or.inl rfl) (pe_tup (pa_cons pe_str (pa_cons (pe_mt0 (pv 2) (ok_take_name T) (hr.mono (by decide)) passN) pa_nil)))))))))
 (pss_cons (ps_expr (pe_mt0 (pv 2) (ok_finish T) (hr.mono (by decide)) passN))
 (pss_one (ps_ret (pv 4)))))), ?_⟩
  refine ⟨_, rfl, _, rfl, z, _, rfl, hz, hw, fun x l H1 s1 hx _ W0 => ?_⟩
  have W0 : WI K H1 x l (wds z) (k : Nat) ((0 : Nat) : Int) := W0
  have hw : ∀ y ∈ wds z, y.length ≤ 900 := hw
  obtain ⟨ws, hws⟩ : ∃ ws, ws = wds z := ⟨_, rfl⟩
  rw [← hws] at W0
  have hQ : ∀ r H', evSpot ws = none → Im K H' r (evD ws) → Same H H' → Q r H' := fun r H' a b c => hQ r H' ⟨by rw [← hws]; exact a, by rw [← hws]; exact b, c⟩
  have hE : ∀ c d H' (s : Nat), evSpot ws = some s → Same H H' → ItX K (k : Nat) (s : Nat) c d H' → E c d H' := fun c d H' s a b e => hE c d H' ⟨s, by rw [← hws]; exact a, b, e⟩
  dsimp only [gName]
  refine seq_cut (t := tMatch _ _) (fun σ' H' => ∃ (sn : Option V) (v : V) (i : Nat), σ' = [some (.str z), some (.int (k : Nat)), some (.ref x), sn, some v] ∧ evSpot ws = (if ws.length ≤ i then none else some i) ∧ Im K H' v (evD ws) ∧ ExtX x H1 H' ∧ WI K H' x l ws (k : Nat) (i : Nat)) (fun nx' hnx => ?_) ?_
  · obtain ⟨dx, hx1⟩ := W0.ob
    refine ⟨_, rfl, x, dx, _, rfl, hx1, rfl, (⟨x, l, ws, (k : Nat), 0⟩, He.ga K "EVENT_WORDS", ["came", "guard", "note"]), rfl, ⟨W0, (T.tup T.tups.2.2.1).2 _⟩, fun r H2 q => ?_, fun c d H2 q => hE c d H2 0 ?_ (same_extX hx s1 q.2.1) q.2.2⟩
    rotate_left
    · have q1 : wat ws 0 ∉ (["came", "guard", "note"] : List Str) := q.1
      simp only [List.mem_cons, List.not_mem_nil, or_false, not_or] at q1
      unfold evSpot
      rw [if_neg q1.1, if_neg q1.2.1, if_neg q1.2.2]
    obtain ⟨hm, rfl, e1, W1⟩ := q
    have hm : wat ws 0 ∈ (["came", "guard", "note"] : List Str) := hm
    have W1 : WI K H2 x l ws (k : Nat) ((1 : Nat) : Int) := W1
    have e1 : ExtX x H1 H2 := e1
    obtain ⟨dx1, hx1⟩ := W1.ob
    refine ⟨wat ws 0, rfl, ?_⟩
    by_cases hc : wat ws 0 = ("came" : Str)
    · rw [if_pos hc]
      have hev : evSpot ws = spotF cameC ws 1 := by unfold evSpot; rw [if_pos hc]
      refine ⟨_, rfl, ⟨x, l, ws, (k : Nat), 1⟩, rfl, W1, fun r H3 q => ?_, fun c d H3 ⟨s, q1, q2, q3⟩ => hE c d H3 s (by rw [hev]; exact run2_spot q1) (same_extX hx s1 (extX_trans e1 q2)) q3⟩
      obtain ⟨n1, n2, hI, e2, W2⟩ := q
      refine ⟨_, rfl, _, rfl, ⟨x, l, ws, (k : Nat), 3⟩, rfl, W2, fun r2 H4 q => ?_, fun c d H4 ⟨s, q1, q2, q3⟩ => hE c d H4 s (by rw [hev]; exact (run2_go n1 n2).trans (run2_spot q1)) (same_extX hx s1 (extX_trans (extX_trans e1 e2) q2)) q3⟩
      obtain ⟨n3, n4, hI2, e3, W3⟩ := q
      refine ⟨by show 3 ≤ _; rw [sizeLine_eq]; decide, fun p hp => hnx _ _ ⟨_, _, 5, rfl, ?_, ?_, extX_upd2 (extX_trans (extX_trans e1 e2) e3) hp, WI.same W3 (same_upd hp)⟩⟩
      · rw [hev]
        exact (run2_go n1 n2).trans (run2_go n3 n4)
      · unfold evD
        rw [if_pos hc]
        have t1 := im_mono (tupX_WI W2 e3) hI
        exact im_tup (SqT.of upd_same) (ims_cons (im_str _) (ims_cons (im_mono (tupX_new hp) t1) (ims_cons (im_mono (tupX_new hp) hI2) ims_nil)))
    · rw [if_neg hc]
      refine ⟨wat ws 0, rfl, ?_⟩
      by_cases hg : wat ws 0 = ("guard" : Str)
      · rw [if_pos hg]
        have hev : evSpot ws = spotF [cGuard] ws 1 := by unfold evSpot; rw [if_neg hc, if_pos hg]
        refine ⟨_, rfl, x, dx1, _, rfl, hx1, rfl, (⟨x, l, ws, (k : Nat), 1⟩, He.ga K "GUARD_WORDS", ["on", "off"]), rfl, ⟨W1, (T.tup T.tups.1).2 _⟩, fun r H3 q => ?_, fun c d H3 q => hE c d H3 1 ?_ (same_extX hx s1 (extX_trans e1 q.2.1)) q.2.2⟩
        rotate_left
        · have q1 : wat ws 1 ∉ (["on", "off"] : List Str) := q.1
          rw [hev]
          simp only [spotF, cGuard, decide_eq_false q1]
          rfl
        obtain ⟨hm2, rfl, e2, W2⟩ := q
        have hm2 : wat ws 1 ∈ (["on", "off"] : List Str) := hm2
        refine ⟨by show 2 ≤ _; rw [sizeLine_eq]; decide, fun p hp => hnx _ _ ⟨none, _, 2, rfl, ?_, ?_, extX_upd2 (extX_trans e1 e2) hp, WI.same W2 (same_upd hp)⟩⟩
        · rw [hev]
          simp only [spotF, cGuard, decide_eq_true hm2, if_true]
        · unfold evD
          rw [if_neg hc, hg]
          exact im_tup (SqT.of upd_same) (ims_cons (im_str _) (ims_cons (im_str _) ims_nil))
      · rw [if_neg hg]
        have hn : wat ws 0 = ("note" : Str) := by
          simp only [List.mem_cons, List.not_mem_nil, or_false] at hm
          exact (hm.resolve_left hc).resolve_left hg
        have hev : evSpot ws = spotF [nameB] ws 1 := by unfold evSpot; rw [if_neg hc, if_neg hg, if_pos hn]
        refine ⟨_, rfl, x, dx1, _, rfl, hx1, rfl, ⟨x, l, ws, (k : Nat), 1⟩, rfl, W1, fun r H3 q => ?_, fun c d H3 q => hE c d H3 1 ?_ (same_extX hx s1 (extX_trans e1 q.2.1)) q.2.2⟩
        rotate_left
        · have q1 : nameB (wat ws 1) = false := q.1
          rw [hev]
          simp only [spotF, q1]
          rfl
        obtain ⟨hm2, rfl, e2, W2⟩ := q
        have hm2 : nameB (wat ws 1) = true := hm2
        refine ⟨by show 2 ≤ _; rw [sizeLine_eq]; decide, fun p hp => hnx _ _ ⟨none, _, 2, rfl, ?_, ?_, extX_upd2 (extX_trans e1 e2) hp, WI.same W2 (same_upd hp)⟩⟩
        · rw [hev]
          simp only [spotF, hm2, if_true]
        · unfold evD
          rw [if_neg hc, hn]
          exact im_tup (SqT.of upd_same) (ims_cons (im_str _) (ims_cons (im_str _) ims_nil))
  · rintro _ H' ⟨sn, v, i, rfl, hev, hI, e1, W1⟩
    obtain ⟨dx1, hx1⟩ := W1.ob
    refine ⟨_, rfl, x, dx1, _, rfl, hx1, rfl, ⟨x, l, ws, (k : Nat), i⟩, rfl, W1, fun r H3 q => ?_, fun c d H3 q => hE c d H3 i ?_ (same_extX hx s1 (extX_trans e1 q.2.1)) q.2.2⟩
    · obtain ⟨h1, rfl, rfl⟩ := q
      have h1 : ws.length ≤ i := h1
      exact ⟨_, rfl, hQ _ _ (by rw [hev, if_pos h1]) hI (same_extX hx s1 e1)⟩
    · have h1 : i < ws.length := q.1
      rw [hev, if_neg (by omega)]
theorem ok_read_event (T : Tx K mg) : OkF pw w K mg base (L2N.CX pw w) 5 "read_event" ["text"] (spReadEvent K) := by
  have sc : FnScope ["text"] ["text"] (defScope (topS 38)) := ⟨rfl, rfl, rfl, by decide +kernel, rfl, by decide +kernel, by decide +kernel⟩
  refine okF T 23 38 rfl sc (fun _ _ _ _ _ _ us hl => match us, hl with | [_], _ => rfl) (fun vs H Q E ⟨_, e, _⟩ => by rw [e] <;> rfl) fun cdv A outer s H vs Q E hr ⟨z, e, hz, hQ, hE⟩ => ?_
  subst e
  refine ⟨_, (pss_one (ps_ret (pe_fn (ok_event_read T) (hr.mono (by decide)) passN (pa_cons (pv 0) (pa_cons pe_int pa_nil))))), ?_⟩
  exact ⟨_, rfl, (z, 0), rfl, hz, hQ, hE⟩
end
end Fl

-- KH3
/-! web_read -/
namespace Fl
open PySem PySem.Spec PyProof.Rows L2 TL RZ
abbrev nlS : Str := "\n"
def webL (z : Str) : List Str := if z = ("" : Str) then [] else Txt.split z nlS
abbrev spWebRead (K : PySem.W.Frag) : Sp := PrE (fun q : Str => [.str q]) (fun q H => q.length ≤ 150000 ∧ (webL q).length ≤ 100000 ∧ ∀ y ∈ webL q, TxtOk y) (fun q H r H' => webF 0 false (webL q) = none ∧ Im K H' r (webD (webL q)) ∧ Same H H')
  (fun q H c d H' => ∃ p : Nat × Nat, webF 0 false (webL q) = some p ∧ Same H H' ∧ ItX K (p.1 : Nat) (p.2 : Nat) c d H')
/-- where the loop over the lines stands -/
def WebAt (K : PySem.W.Frag) (ls : List Str) (i : Nat) (ks as : List V) (H : Hp) : Prop :=
  (as = [] ∧ ImAll K H ks ((ls.take i).map fun x => kindD (wds x)) ∧ webF 0 false ls = webF i false (ls.drop i)) ∨
  ∃ j x, i = j + 1 ∧ ls[j]? = some x ∧ as = [.str (wat (wds x) 1)] ∧ ImAll K H ks ((ls.take j).map fun x => kindD (wds x)) ∧ webF 0 false ls = webF i true (ls.drop i)
theorem webF_cons {k : Nat} {a : Bool} {x : Str} {r : List Str} : webF k a (x :: r) = match lnSpot a (wds x) with
    | some s => some (k, s)
    | none => webF (k + 1) (isAsk (wds x)) r := rfl
theorem WebAt.mono {K : PySem.W.Frag} {ls : List Str} {i : Nat} {ks as : List V} {H H' : Hp} (e : TupX H H') (h : WebAt K ls i ks as H) : WebAt K ls i ks as H' := by
  rcases h with ⟨h1, h2, h3⟩ | ⟨j, x, h1, h2, h3, h4, h5⟩
  · exact .inl ⟨h1, ims_mono e h2, h3⟩
  · exact .inr ⟨j, x, h1, h2, h3, ims_mono e h4, h5⟩
section
variable {P : Program} {w : World} {K : PySem.W.Frag} {mg : Str → Option Value} {base : Heap}
theorem ok_web_read (T : Tx K mg) : OkF pw w K mg base (L2N.CX pw w) 6 "web_read" ["text"] (spWebRead K) := by
  have sc : FnScope ["text", "lines", "kinds", "askers", "k", "line", "words"] ["text"] (defScope (topS 33)) := ⟨rfl, rfl, rfl, by decide +kernel, rfl, by decide +kernel, by decide +kernel⟩
  refine okF T 20 33 rfl sc (fun _ _ _ _ _ _ us hl => match us, hl with | [_], _ => rfl) (fun vs H Q E ⟨_, e, _⟩ => by rw [e] <;> rfl) fun cdv A outer s H vs Q E hr ⟨z, e, ⟨hz, hn, hw⟩, hQ, hE⟩ => ?_
  subst e
  refine ⟨_, (pss_cons (ps_set (i := 1) sc.nd rfl (Or.inl rfl) (pe_ifExp (pt_cmpR op_ne (pv 0) pe_str (nomark _)) (pe_split (pv 0) pe_str) (pe_lst pa_nil)))
 (pss_cons (ps_set (i := 2) sc.nd rfl (Or.inl rfl) (pe_lst pa_nil))
 (pss_cons (ps_set (i := 3) sc.nd rfl (Or.inl rfl) (pe_lst pa_nil))
 (pss_cons (ps_for (L2.passes_of rfl) rfl (pi_enum rfl (T.bl (x := "enumerate")) (pa_cons (pv 1) pa_nil)) (pg_tup rfl (pgs_cons (pg_name (i := 4) sc.nd rfl (.inl rfl) (hf := .inr rfl)) (pgs_cons (pg_name (i := 5) sc.nd rfl (.inl rfl) (hf := .inr rfl)) pgs_nil))) (pss_cons (ps_set (i := 6) sc.nd rfl (Or.inl rfl) (pe_wds (ok_init T) (hr.mono (by decide)) (pa_cons (pv 5) (pa_cons (pv 4) pa_nil))))
 (pss_one (ps_if (pt_cmpR op_eq (pe_mt (pv 6) (ok_take_word T) (hr.mono (by decide)) passN (pa_cons (pe_ifExp (pt_cmpR op_eq (pe_callB call_len rfl (T.bl (x := "len")) (by decide +kernel) (pa_cons (pv 3) pa_nil)) pe_int (nomark _)) (pe_glob (v := .ref (He.ga K "HEADS")) rfl (T.tup T.tups.2.1).1 rfl) (pe_tup pa_nil)) pa_nil)) pe_str (nomark _)) (pss_one (ps_expr (pe_bm PySem.F.plainAttrs_list PySem.F.slot_list_append PySem.F.type_list_append mt_append (pv 2) (pa_cons (pe_fn (ok_taken_kind T) (hr.mono (by decide)) passN (pa_cons (pv 6) pa_nil)) pa_nil)))) (pss_cons (ps_expr (pe_bm PySem.F.plainAttrs_list PySem.F.slot_list_append PySem.F.type_list_append mt_append (pv 3) (pa_cons (pe_mt0 (pv 6) (ok_take_name T) (hr.mono (by decide)) passN) pa_nil)))
 (pss_one (ps_expr (pe_mt0 (pv 6) (ok_finish T) (hr.mono (by decide)) passN))))))))
 (pss_cons (ps_if (pt_cmpR op_eq (pe_callB call_len rfl (T.bl (x := "len")) (by decide +kernel) (pa_cons (pv 3) pa_nil)) pe_int (nomark _)) (pss_one (L2N.ps_raise rfl (L2N.takes_of rfl rfl rfl rfl) (L2H.PMk5.pmk (pmk5_it T.itT rfl (room1 hr) rfl T.mgIT (pa_cons (pe_callB call_len rfl (T.bl (x := "len")) (by decide +kernel) (pa_cons (pv 1) pa_nil)) (pa_cons pe_int pa_nil)))))) pss_nil)
 (pss_one (ps_ret (pe_tup (pa_cons (pe_callTy call_tuple_of rfl (T.bl (x := "tuple")) (by decide +kernel) (pa_cons (pv 2) pa_nil)) (pa_cons (pe_ix ix_list (pv 3) pe_int (fun _ _ => rfl)) pa_nil)))))))))), ?_⟩
  have hz : z.length ≤ 150000 := hz
  have hn : (webL z).length ≤ 100000 := hn
  have hS : 200000 ≤ sizeLine := by rw [sizeLine_eq]; decide
  refine seq_asg (fun v H1 => ∃ a, v = .ref a ∧ Same H H1 ∧ H1 a = some (.lst (vS (webL z)))) (fun Q' hQ' => ?_) ?_
  · refine ⟨_, rfl, rfl, _, rfl, ?_⟩
    refine ite2 (fun h => ?_) (fun h => ?_)
    · have hz0 : z ≠ ("" : Str) := fun q => by rw [q] at h; cases h
      refine ⟨_, rfl, ⟨_, rfl⟩, _, _, rfl, rfl, by decide +kernel, by omega, fun p hp => hQ' _ _ ⟨p, rfl, same_upd hp, ?_⟩⟩
      rw [upd_same]
      unfold webL
      rw [if_neg hz0] <;> rfl
    · have hz0 : z = ("" : Str) := Decidable.byContradiction fun q => h (by
        show (!decide (V.str z = V.str ("" : Str))) = true
        rw [decide_eq_false fun q2 => q (V.str.inj q2)] <;> rfl)
      refine ⟨Nat.zero_le _, fun p hp => hQ' _ _ ⟨p, rfl, same_upd hp, ?_⟩⟩
      rw [upd_same]
      unfold webL
      rw [if_pos hz0] <;> rfl
  rintro _ H1 ⟨L, rfl, s1, hL⟩
  obtain ⟨ls, hls⟩ : ∃ ls, ls = webL z := ⟨_, rfl⟩
  rw [← hls] at hL hn
  have hw : ∀ y ∈ ls, TxtOk y := by rw [hls]; exact hw
  have hQ : ∀ r H', webF 0 false ls = none → Im K H' r (webD ls) → Same H H' → Q r H' := fun r H' a b c => hQ r H' ⟨by rw [← hls]; exact a, by rw [← hls]; exact b, c⟩
  have hE : ∀ c d H' (p : Nat × Nat), webF 0 false ls = some p → Same H H' → ItX K (p.1 : Nat) (p.2 : Nat) c d H' → E c d H' := fun c d H' p a b e => hE c d H' ⟨p, by rw [← hls]; exact a, b, e⟩
  refine ⟨Nat.zero_le _, fun kk hkk => ⟨Nat.zero_le _, fun aa haa => ?_⟩⟩
  have hLk : L ≠ kk := ne_of_none hL hkk
  have hak : kk ≠ aa := ne_of_none (upd_same (H := H1) (o := .lst [])) haa
  have hLa : L ≠ aa := ne_of_none (by rw [upd_ne hLk]; exact hL) haa
  dsimp only [gName]
  refine seq_cut (t := tFor _ _ _) (fun σ' H' => ∃ o4 o5 o6 ks as, σ' = [some (.str z), some (.ref L), some (.ref kk), some (.ref aa), o4, o5, o6] ∧ Same H H' ∧ H' L = some (.lst (vS ls)) ∧ H' kk = some (.lst ks) ∧ H' aa = some (.lst as) ∧ ks.length ≤ ls.length ∧ WebAt K ls ls.length ks as H') (fun nx' hnx => ?_) ?_
  · refine ⟨_, rfl, L, vS ls, rfl, SqL.of (by rw [upd_ne hLa, upd_ne hLk]; exact hL), ?_⟩
    refine for_it (walk_enum (xs := vS ls)) (fun i σ' H' => ∃ o4 o5 o6 ks as, σ' = [some (.str z), some (.ref L), some (.ref kk), some (.ref aa), o4, o5, o6] ∧ Same H H' ∧ H' L = some (.lst (vS ls)) ∧ H' kk = some (.lst ks) ∧ H' aa = some (.lst as) ∧ ks.length ≤ i ∧ WebAt K ls i ks as H')
      ⟨_, _, _, [], [], rfl, (s1.trans (same_upd hkk)).trans (same_upd haa), by rw [upd_ne hLa, upd_ne hLk]; exact hL, by rw [upd_ne hak, upd_same], upd_same, Nat.le_refl _, .inl ⟨rfl, ims_nil, rfl⟩⟩
      (fun i σ' H' _ ⟨_, _, _, _, _, _, _, h, _⟩ => SqL.of h) (fun i x σ' H' H2 hi hP y => ?_) (fun σ' H' hP => ?_)
    · obtain ⟨o4, o5, o6, ks, as, rfl, s2, h1, h2, h3, hk, hI⟩ := hP
      obtain ⟨T1, x1, y1, rfl, hT, rfl, hx, hy⟩ := y
      cases hx
      have hi : i < ls.length := by rw [List.length_map] at hi; exact hi
      have hy2 : ls[i]?.map V.str = some y1 := by simpa using hy
      obtain ⟨y2, ey, rfl⟩ := Option.map_eq_some_iff.mp hy2
      have hdr : ls.drop i = y2 :: ls.drop (i + 1) := by
        rw [List.drop_eq_getElem_cons hi]
        rw [List.getElem?_eq_getElem hi] at ey
        rw [Option.some.inj ey]
      have hty := hw y2 (List.mem_of_getElem? ey)
      refine ⟨T1, _, rfl, SqT.of upd_same, rfl, _, _, rfl, _, _, rfl, rfl, ?_⟩
      have s3 := s2.trans (same_upd (o := .tup [V.int (i : Nat), V.str y2]) hT)
      refine ⟨_, rfl, _, rfl, y2, _, rfl, hty.1, hty.2, fun x l H3 s4 hx hl W0 => ?_⟩
      have W0 : WI K H3 x l (wds y2) (i : Nat) ((0 : Nat) : Int) := W0
      have g1 : H3 L = some (.lst (vS ls)) := s4 _ _ (same_upd hT _ _ h1)
      have g2 : H3 kk = some (.lst ks) := s4 _ _ (same_upd hT _ _ h2)
      have g3 : H3 aa = some (.lst as) := s4 _ _ (same_upd hT _ _ h3)
      have s5 : Same H H3 := s3.trans s4
      obtain ⟨dx, hx0⟩ := W0.ob
      have nx1 : ∀ {b l1}, H3 b = some (.lst l1) → b ≠ x := fun h => ne_of h hx0 (by intro z; cases z)
      have hxn : ∀ b o, H b = some o → b ≠ x := fun b o h => ne_of_none (s3 b o h) hx
      have keep : ∀ {H' : Hp}, ExtX x H3 H' → Same H H' := fun e b o h => e b o (hxn b o h) (s5 b o h)
      have hI := WebAt.mono (tupX_same ((same_upd (o := .tup [V.int (i : Nat), V.str y2]) hT).trans s4)) hI
      refine ⟨_, rfl, x, dx, _, rfl, hx0, rfl, _, rfl, _, _, rfl, .inl ⟨_, SqL.of g3, rfl⟩, rfl, _, rfl, ?_⟩
      rcases hI with ⟨rfl, hI, hF⟩ | ⟨j, xj, rfl, hxj, rfl, hI, hF⟩
      · refine ite_t rfl ⟨(⟨x, l, wds y2, (i : Nat), 0⟩, He.ga K "HEADS", ["kind", "asker"]), rfl, ⟨W0, (T.tup T.tups.2.1).2 _⟩, fun r H4 q => ?_, fun c d H4 q => hE c d H4 (i, 0) ?_ (keep q.2.1) q.2.2⟩
        rotate_left
        · have q1 : wat (wds y2) 0 ∉ (["kind", "asker"] : List Str) := q.1
          simp only [List.mem_cons, List.not_mem_nil, or_false, not_or] at q1
          rw [hF, hdr, webF_cons]
          unfold lnSpot
          rw [if_neg Bool.false_ne_true, if_neg q1.1, if_neg q1.2]
        obtain ⟨hm, rfl, e1, W1⟩ := q
        have hm : wat (wds y2) 0 ∈ (["kind", "asker"] : List Str) := hm
        have W1 : WI K H4 x l (wds y2) (i : Nat) ((1 : Nat) : Int) := W1
        have e1 : ExtX x H3 H4 := e1
        obtain ⟨dx1, hx1⟩ := W1.ob
        refine ⟨rfl, _, rfl, ?_⟩
        by_cases hc : wat (wds y2) 0 = ("kind" : Str)
        · refine ite_t (decide_eq_true (by rw [hc])) ?_
          have hev : lnSpot false (wds y2) = spotF kindC (wds y2) 1 := by unfold lnSpot; rw [if_neg Bool.false_ne_true, if_pos hc]
          refine ⟨_, rfl, .inl ⟨rfl, _, SqL.of (e1 _ _ (nx1 g2) g2)⟩, _, rfl, ⟨x, l, wds y2, (i : Nat), 1⟩, rfl, ⟨W1, rfl⟩, fun r H5 q => ?_, fun c d H5 ⟨s, q1, q2, q3⟩ => hE c d H5 (i, s) ?_ (keep (extX_trans e1 q2)) q3⟩
          rotate_left
          · rw [hF, hdr, webF_cons, hev]
            have q1 : spotF kindC (wds y2) 1 = some s := q1
            rw [q1]
          obtain ⟨q1, q2, q3⟩ := q
          have q1 : spotF kindC (wds y2) 1 = none := q1
          have e5 := extX_trans e1 q3
          have hkk5 : H5 kk = some (.lst ks) := e5 _ _ (nx1 g2) g2
          refine ⟨kk, ks, r, rfl, rfl, hkk5, by omega, _, _, _, ks ++ [r], [], rfl, fun b o h => ?_, ?_, upd_same, ?_, by simp; omega, .inl ⟨rfl, ?_, ?_⟩⟩
          · have nb : b ≠ kk := ne_of_none (s1 b o h) hkk
            rw [upd_ne nb]
            exact keep e5 b o h
          · rw [upd_ne hLk]
            exact e5 _ _ (nx1 g1) g1
          · rw [upd_ne (Ne.symm hak)]
            exact e5 _ _ (nx1 g3) g3
          · rw [List.take_succ, ey, List.map_append]
            have t1 := tupX_WI W0 e5
            exact ims_app (ims_mono (tupX_lst hkk5) (ims_mono t1 hI)) (ims_cons (im_mono (tupX_lst hkk5) q2) ims_nil)
          · rw [hF, hdr, webF_cons, hev, q1]
            have : isAsk (wds y2) = false := decide_eq_false (by rw [hc]; decide +kernel)
            rw [this]
        · refine ite_f (decide_eq_false fun q => hc (V.str.inj q)) ?_
          have ha : wat (wds y2) 0 = ("asker" : Str) := by
            simp only [List.mem_cons, List.not_mem_nil, or_false] at hm
            exact hm.resolve_left hc
          have hev : lnSpot false (wds y2) = spotF [nameB] (wds y2) 1 := by unfold lnSpot; rw [if_neg Bool.false_ne_true, if_neg hc, if_pos ha]
          refine ⟨_, rfl, .inl ⟨rfl, _, SqL.of (e1 _ _ (nx1 g3) g3)⟩, _, rfl, x, dx1, _, rfl, hx1, rfl, ⟨x, l, wds y2, (i : Nat), 1⟩, rfl, W1, fun r H5 q => ?_, fun c d H5 q => hE c d H5 (i, 1) ?_ (keep (extX_trans e1 q.2.1)) q.2.2⟩
          rotate_left
          · have q1 : nameB (wat (wds y2) 1) = false := q.1
            rw [hF, hdr, webF_cons, hev]
            simp only [spotF, q1]
            rfl
          obtain ⟨q1, rfl, q3, W5⟩ := q
          have q1 : nameB (wat (wds y2) 1) = true := q1
          have e5 := extX_trans e1 q3
          have haa5 : H5 aa = some (.lst []) := e5 _ _ (nx1 g3) g3
          refine ⟨aa, [], _, rfl, rfl, haa5, by show 0 < _; omega, ?_⟩
          have W6 : WI K (upd H5 aa (.lst [V.str (wat (wds y2) 1)])) x l (wds y2) (i : Nat) ((2 : Nat) : Int) := by
            obtain ⟨dx5, hx5⟩ := W5.ob
            have nal : aa ≠ x := ne_of haa5 hx5 (by intro z; cases z)
            have nll : l ≠ aa := Ne.symm (ne_of_none (same_upd hT _ _ h3) hl)
            exact ⟨⟨dx5, by rw [upd_ne (Ne.symm nal)]; exact hx5⟩, by rw [upd_ne nll]; exact W5.ls, W5.sz⟩
          obtain ⟨dx6, hx6⟩ := W6.ob
          have hxa : ∀ b o, H b = some o → b ≠ aa := fun b o h => ne_of_none (by rw [upd_ne (ne_of_none (s1 b o h) hkk)]; exact s1 b o h) haa
          refine ⟨_, rfl, x, dx6, _, rfl, hx6, rfl, ⟨x, l, wds y2, (i : Nat), 2⟩, rfl, W6, fun r H7 q => ?_, fun c d H7 q => hE c d H7 (i, 2) ?_ (fun b o h => q.2.1 _ _ (hxn b o h) (by rw [upd_ne (hxa b o h)]; exact keep e5 b o h)) q.2.2⟩
          rotate_left
          · have q2 : 2 < (wds y2).length := q.1
            rw [hF, hdr, webF_cons, hev]
            simp only [spotF, q1, if_true]
            rw [if_neg (by omega)]
          obtain ⟨q2, rfl, rfl⟩ := q
          have q2 : (wds y2).length ≤ 2 := q2
          refine ⟨_, _, _, ks, _, rfl, fun b o h => ?_, ?_, ?_, upd_same, by omega, .inr ⟨i, y2, rfl, ey, rfl, ?_, ?_⟩⟩
          · rw [upd_ne (hxa b o h)]
            exact keep e5 b o h
          · rw [upd_ne hLa]
            exact e5 _ _ (nx1 g1) g1
          · rw [upd_ne hak]
            exact e5 _ _ (nx1 g2) g2
          · exact ims_mono (tupX_lst haa5) (ims_mono (tupX_WI W0 e5) hI)
          · rw [hF, hdr, webF_cons, hev]
            simp only [spotF, q1, if_true]
            rw [if_pos q2]
            have : isAsk (wds y2) = true := decide_eq_true ha
            rw [this]
      · refine ite_f rfl ⟨Nat.zero_le _, fun p hp => ⟨(⟨x, l, wds y2, ((j + 1 : Nat) : Int), 0⟩, p, []), rfl, ⟨WI.same W0 (same_upd hp), SqT.of upd_same⟩, fun r H4 q => absurd q.1 (by intro z; cases z), fun c d H4 q => hE c d H4 (j + 1, 0) ?_ (fun b o h => q.2.1 _ _ (hxn b o h) (same_upd hp _ _ (s5 b o h))) q.2.2⟩⟩
        rw [hF, hdr, webF_cons]
        unfold lnSpot
        rw [if_pos rfl]
    · obtain ⟨o4, o5, o6, ks, as, rfl, s2, h1, h2, h3, hk, hI⟩ := hP
      rw [List.length_map] at hk hI
      exact hnx _ _ ⟨_, _, _, ks, as, rfl, s2, h1, h2, h3, hk, hI⟩
  · rintro _ H' ⟨o4, o5, o6, ks, as, rfl, s2, h1, h2, h3, hk, hI⟩
    refine ⟨_, rfl, _, _, rfl, .inl ⟨_, SqL.of h3, rfl⟩, rfl, _, rfl, ?_⟩
    rcases hI with ⟨rfl, hI, hF⟩ | ⟨j, xj, hj, hxj, rfl, hI, hF⟩
    · refine ite_t rfl ⟨_, rfl, _, _, rfl, .inl ⟨_, SqL.of h1, rfl⟩, _, _, rfl, fun d hd => hE _ _ _ (ls.length, 0) ?_ (s2.trans (same_upd hd)) ⟨rfl, d, rfl, ?_⟩⟩
      · rw [hF, List.drop_length]
        rfl
      · rw [upd_same, List.length_map] <;> rfl
    · refine ite_f rfl ⟨_, rfl, kk, ks, rfl, .inl ⟨SqL.of h2, fun tp htp => ?_⟩⟩
      have h3' : (upd H' tp (.tup ks)) aa = some (.lst [.str (wat (wds xj) 1)]) := same_upd htp _ _ h3
      refine ⟨_, rfl, aa, _, 0, .str (wat (wds xj) 1), rfl, rfl, SqL.of h3', atI_nat (j := 0) rfl, by show 2 ≤ _; omega, fun f hf => hQ _ _ ?_ ?_ ((s2.trans (same_upd htp)).trans (same_upd hf))⟩
      · rw [hF, List.drop_length]
        rfl
      · have e1 : ls.dropLast = ls.take j := by rw [List.dropLast_eq_take, hj, Nat.add_sub_cancel]
        have e2 : ls.getLastD Str.empty = xj := by
          rw [List.getLastD_eq_getLast?, List.getLast?_eq_getElem?, hj, Nat.add_sub_cancel, hxj] <;> rfl
        unfold webD
        rw [e1, e2]
        have t1 := ims_mono (tupX_new (o := .tup ks) htp) hI
        exact im_tup (SqT.of upd_same) (ims_cons (im_mono (tupX_new hf) (im_tup (SqT.of upd_same) t1)) (ims_cons (im_str _) ims_nil))
end
end Fl

-- KQ
/-! rules that name K, for use within a comprehension's block -/
namespace Fl
open PySem PySem.Spec PyProof.Rows L2
section
variable {X : Cx} {K : PySem.W.Frag}
theorem ix_listK (h : X.K = K) : IxR X (rIxL K) := h ▸ ix_list
theorem ix_tupK (h : X.K = K) : IxR X (rIxT K) := h ▸ ix_tup
theorem op_in_seqK (h : X.K = K) : OpR X (compareOp .In) (rIn K false) := h ▸ op_in_seq
theorem op_notIn_seqK (h : X.K = K) : OpR X (compareOp .NotIn) (rIn K true) := h ▸ op_notIn_seq
theorem sl_listK (h : X.K = K) : SlR X (rSlL K) := h ▸ sl_list
theorem sl_tupUK (h : X.K = K) : SlR X (rSlU K) := h ▸ sl_tupU
end
end Fl

-- KH4
/-! web_of_rows -/
namespace Fl
open PySem PySem.Spec PyProof.Rows L2 TL RZ
def joinLen (ls : List Str) : Nat := (ls.map (·.length)).sum + ls.length
theorem cxN_le {P : Program} {w : World} {outer : List Env} {H : Hp} {s s' : Shared} {E : XK} {u : Value} (h : L2N.CX P w outer H s E u s') : L2.CX P w outer H s E u s' := by
  obtain ⟨a, B, H', cls, d, e, ⟨f1, f2, f3, oe, vs, T, oT, ts, g1, g2, g3⟩, r⟩ := h
  exact ⟨a, B, H', cls, d, e, ⟨f1, f2, f3, oe, vs, T, oT, ts, g1, g2.zc, g3⟩, r⟩
theorem passes_le {X : Cx} {E : XK} (h : Passes (L2.CX X.prog X.w) X E) : Passes (L2N.CX X.prog X.w) X E := fun pins σ H s e s' I c => h pins σ H s e s' I (cxN_le c)
section
variable {P : Program} {w : World} {K : PySem.W.Frag} {mg : Str → Option Value} {base : Heap} {N : List Str} {qual : Str} {sc : Scope} {f : Addr} {cd : Value} {A : Around} {outer : List Env} {s : Shared} {H : Hp} {E : XK}
theorem passLL : Passes (L2.CX P w) (cxOf (L2.CX P w) P w K mg base N qual sc f cd A outer s H E) E := L2.passes_call (L2.takes_of rfl rfl rfl rfl) (fun _ _ _ _ h => h)
theorem passNL : Passes (L2N.CX P w) (cxOf (L2.CX P w) P w K mg base N qual sc f cd A outer s H E) E := passes_le passLL
end
theorem webF_empty : webF 0 false [Str.empty] = some (0, 0) := by decide +kernel
theorem joinL_nil : ∀ {parts : List (List Nat)}, joinL [10] parts = [] → parts = [] ∨ parts = [[]]
  | [], _ => .inl rfl
  | [p], h => .inr (by rw [show p = [] from h])
  | p :: q :: r, h => by
    have h2 : p ++ ([10] ++ joinL [10] (q :: r)) = [] := h
    simp at h2
theorem web_rows {rows : List Str} (h : ∀ y ∈ rows, 10 ∉ tl y) : webF 0 false (webL (Txt.join nlS rows)) = webF 0 false rows ∧ (webF 0 false rows = none → webL (Txt.join nlS rows) = rows) ∧ ((webL (Txt.join nlS rows)) = [] ∨ webL (Txt.join nlS rows) = rows) := by
  have en : tl nlS = [10] := by decide +kernel
  by_cases hz : Txt.join nlS rows = ("" : Str)
  · have e1 : webL (Txt.join nlS rows) = [] := by unfold webL; rw [if_pos hz]
    have e2 : joinL [10] (rows.map tl) = [] := by
      rw [← en, ← tl_join, ← join_eq, hz] <;> rfl
    rw [e1]
    rcases joinL_nil e2 with e3 | e3
    · rw [List.map_eq_nil_iff.mp e3]
      exact ⟨rfl, fun _ => rfl, .inl rfl⟩
    · have e4 : rows = [Str.empty] := map_tl_inj (by rw [e3] <;> rfl)
      rw [e4, webF_empty]
      exact ⟨rfl, (fun q => by cases q), .inl rfl⟩
  · have e1 : webL (Txt.join nlS rows) = rows := by
      unfold webL
      rw [if_neg hz]
      refine split_join (s := 10) (S := []) en (by decide +kernel) (fun q => hz ?_) h
      rw [q]
      rfl
    rw [e1]
    exact ⟨rfl, fun _ => rfl, .inr rfl⟩
theorem joinL_len : ∀ parts : List (List Nat), (joinL [10] parts).length ≤ (parts.map List.length).sum + parts.length
  | [] => by simp [joinL]
  | [p] => by simp [joinL]
  | p :: q :: r => by
    have := joinL_len (q :: r)
    show (p ++ ([10] ++ joinL [10] (q :: r))).length ≤ _
    simp only [List.length_append, List.length_cons, List.length_nil, List.map_cons, List.sum_cons] at this ⊢
    omega
theorem join_len (rows : List Str) : (Txt.join nlS rows).length ≤ joinLen rows := by
  have en : tl nlS = [10] := by decide +kernel
  have h := joinL_len (rows.map tl)
  rw [len_tl, join_eq, tl_join, en]
  unfold joinLen
  rw [List.map_map, List.length_map] at h
  have e : (List.length ∘ tl) = fun x : Str => x.length := by
    funext x
    exact (len_tl x).symm
  rw [e] at h
  exact h
/-- lines that can be read -/
structure LnsOk (ls : List Str) : Prop where
  len : joinLen ls ≤ 150000
  ok : ∀ y ∈ ls, TxtOk y ∧ 10 ∉ tl y
theorem LnsOk.n {ls : List Str} (h : LnsOk ls) : ls.length ≤ 150000 := by have := h.len; unfold joinLen at this; omega
abbrev spWebOfRows (K : PySem.W.Frag) : Sp := PrE (fun q : Addr × List Str => [.ref q.1]) (fun q H => H q.1 = some (.lst (vS q.2)) ∧ LnsOk q.2 ∧ q.2.length ≤ 100000) (fun q H r H' => webF 0 false q.2 = none ∧ Im K H' r (webD q.2) ∧ Same H H')
  (fun q H c d H' => ∃ p : Nat × Nat, webF 0 false q.2 = some p ∧ Same H H' ∧ ItX K ((p.1 : Nat) + 1) (p.2 : Nat) c d H')
section
variable {P : Program} {w : World} {K : PySem.W.Frag} {mg : Str → Option Value} {base : Heap}
theorem ok_web_of_rows (T : Tx K mg) : OkF pw w K mg base (L2.CX pw w) 7 "web_of_rows" ["rows"] (spWebOfRows K) := by
  have sc : FnScope ["rows", "why"] ["rows"] (defScope (topS 39)) := ⟨rfl, rfl, rfl, by decide +kernel, rfl, by decide +kernel, by decide +kernel⟩
  refine okF T 24 39 rfl sc (fun _ _ _ _ _ _ us hl => match us, hl with | [_], _ => rfl) (fun vs H Q E ⟨_, e, _⟩ => by rw [e] <;> rfl) fun cdv A outer s H vs Q E hr ⟨⟨a, rows⟩, e, ⟨ha, hk, hn⟩, hQ, hE⟩ => ?_
  subst e
  have ha : H a = some (.lst (vS rows)) := ha
  have hk : LnsOk rows := hk
  have hn : rows.length ≤ 100000 := hn
  refine ⟨_, pss_one (ps_try_asX (i := 1) (c := .ref (itA K)) rfl rfl sc.nd rfl rfl ⟨rfl, by decide, .inl T.mgIT⟩ (fun hd => L2H.passesAt_of rfl hd) (L2.takes_of rfl rfl rfl rfl)
    (tb := fun W => tRet (tCallS (spWebRead K) (WE W) (tCons (tM1 (fun x xs H Q => ∃ a p, ∃ ys : List Str, x = .str a ∧ xs = [.ref p] ∧ (SqL K H p (ys.map V.str) ∨ SqT K H p (ys.map V.str)) ∧ (ys.map (·.length)).sum + ys.length * a.length ≤ 16777216 ∧ Q (.str (Txt.join a ys)) H) (tC (.str nlS)) (tVar 0)) tNil)))
    (fun W pn xe tk _ => by
      refine pss_one (ps_ret ?_)
      refine pe_fnS (ok_web_read T) (hr.mono (by decide)) (fun σ => L2N.passAt tk σ) ?_
      refine pa_cons ?_ pa_nil
      exact pe_join pe_str (pv 0))
    (fun a oe cls d pn xe hz hf tk hot => pss_one (L2H.ps_raiseHN hot tk (pmk5_it T.itT rfl (have h := room1 hr; h) rfl T.mgIT
      (pa_cons (pe_op op_add (pe_xfY T.xf T.itT.no1 List.mem_cons_self hz.zc hf (pv 1)) pe_int) (pa_cons (pe_xfY T.xf T.itT.no2 List.mem_cons_self hz.zc hf (pv 1)) pa_nil)))))), ?_⟩
  obtain ⟨w1, w2, w3⟩ := web_rows (rows := rows) fun y hy => (hk.ok y hy).2
  have hj := join_len rows
  have hl := hk.len
  refine ⟨⟨_, rfl⟩, _, rfl, _, a, rows, rfl, rfl, .inl (SqL.of ha), ?_, Txt.join nlS rows, rfl, ⟨?_, ?_, ?_⟩, fun r H' q => ?_, fun c d H' q => ?_⟩
  · unfold joinLen at hl
    have : nlS.length = 1 := by decide +kernel
    rw [this]
    omega
  · show (Txt.join nlS rows).length ≤ _
    omega
  · show (webL (Txt.join nlS rows)).length ≤ _
    rcases w3 with e | e <;> rw [e]
    · exact Nat.zero_le _
    · exact hn
  · intro y hy
    rcases w3 with e | e <;> rw [e] at hy
    · cases hy
    · exact (hk.ok y hy).1
  · obtain ⟨q1, q2, q3⟩ := q
    have h0 : webF 0 false rows = none := by rw [← w1]; exact q1
    refine hQ _ _ ⟨h0, ?_, q3⟩
    have := w2 h0
    rw [this] at q2
    exact q2
  · obtain ⟨p, q1, q2, rfl, dd, rfl, hdd⟩ := q
    refine ⟨true, T.exmIT, fun _ ea hea => ?_, fun q => nomatch q⟩
    refine ⟨_, rfl, rfl, rfl, dd, _, _, rfl, hdd, itF_line _ _, _, _, rfl, rfl, _, rfl, rfl, rfl, dd, _, _, rfl, hdd, itF_field _ _, _, _, rfl, fun d hd => hE _ _ _ ⟨p, by rw [← w1]; exact q1, q2.trans (same_upd hd), rfl, d, rfl, upd_same⟩⟩
end
end Fl

-- KH5
/-! read_log -/
namespace Fl
open PySem PySem.Spec PyProof.Rows L2 TL RZ
abbrev spReadLog (K : PySem.W.Frag) : Sp := PrE (fun q : Addr × List Str => [.ref q.1]) (fun q H => H q.1 = some (.lst (vS q.2)) ∧ LnsOk q.2 ∧ q.2.length ≤ 100000) (fun q H r H' => logF q.2 = none ∧ Im K H' r (logD q.2) ∧ Same H H')
  (fun q H c d H' => ∃ p : Nat × Nat, logF q.2 = some p ∧ Same H H' ∧ ItX K (p.1 : Nat) (p.2 : Nat) c d H')
theorem evF_cons {k : Nat} {x : Str} {r : List Str} : evF k (x :: r) = match evSpot (wds x) with
    | some s => some (k, s)
    | none => evF (k + 1) r := rfl
theorem logF_cons {x : Str} {r : List Str} : logF (x :: r) = match spotF liveC (wds x) 0 with
    | some s => some (0, s)
    | none => match webF 0 false (rowsN x r) with
      | some p => some (p.1 + 1, p.2)
      | none => if r.length < manyN x then some (r.length + 1, 0) else evF (manyN x + 1) (r.drop (manyN x)) := rfl
theorem ims_nums {K : PySem.W.Frag} {H : Hp} : ∀ {l : List Str}, (l.all fun x => cntB (cntO x)) = true → ImAll K H (l.map fun x => ov (cntO x)) (l.map fun x => .int (valN x))
  | [], _ => ims_nil
  | x :: r, h => by
    rw [List.all_cons, Bool.and_eq_true] at h
    refine ims_cons ?_ (ims_nums h.2)
    cases e : cntO x with
    | none =>
      rw [e] at h
      cases h.1
    | some n =>
      show Im K H (ov (cntO x)) (.int (valN x))
      rw [e]
      show Im K H (.int n) _
      rw [cnt_val e]
      exact im_int _
theorem cut_rows (x : Str) (r : List Str) (m : Nat) : cutV (vS (x :: r)) (some 1) (some ((m : Nat) + 1 : Int)) = vS (r.take m) := by
  unfold cutV
  rw [show ((1 : Int)) = ((1 : Nat) : Int) from rfl, show ((m : Nat) + ((1 : Nat) : Int) : Int) = ((m + 1 : Nat) : Int) from rfl, HT.sIx_nat, HT.sIx_nat]
  have hl : (vS (x :: r)).length = r.length + 1 := by simp
  rw [hl, show min 1 (r.length + 1) = 1 from by omega]
  show (vS r).take (min (m + 1) (r.length + 1) - 1) = vS (r.take m)
  rw [show vS (r.take m) = (vS r).take m from List.map_take]
  by_cases h : m ≤ r.length
  · rw [show min (m + 1) (r.length + 1) - 1 = m from by omega]
  · rw [show min (m + 1) (r.length + 1) - 1 = r.length from by omega, List.take_of_length_le (by simp), List.take_of_length_le (by simp; omega)]
theorem sum_take_le : ∀ (l : List Nat) (m : Nat), (l.take m).sum ≤ l.sum
  | [], m => by simp
  | a :: r, 0 => by simp
  | a :: r, m + 1 => by
    have := sum_take_le r m
    simp only [List.take_succ_cons, List.sum_cons]
    omega
theorem LnsOk.rows {x : Str} {r : List Str} (h : LnsOk (x :: r)) (m : Nat) : LnsOk (r.take m) := by
  refine ⟨?_, fun y hy => h.ok y (List.mem_cons_of_mem _ (List.mem_of_mem_take hy))⟩
  have h1 := h.len
  unfold joinLen at h1 ⊢
  have h2 := sum_take_le (r.map fun x => x.length) m
  rw [← List.map_take] at h2
  simp only [List.map_cons, List.sum_cons, List.length_cons] at h1
  rw [List.length_take]
  omega
section
variable {P : Program} {w : World} {K : PySem.W.Frag} {mg : Str → Option Value} {base : Heap}
theorem ok_read_log (T : Tx K mg) : OkF pw w K mg base (L2.CX pw w) 8 "read_log" ["lines"] (spReadLog K) := by
  have sc : FnScope ["lines", "words", "guard", "marks", "numbers", "many", "web", "k", "events"] ["lines"] (defScope (topS 40)) := ⟨rfl, rfl, rfl, by decide +kernel, rfl, by decide +kernel, by decide +kernel⟩
  refine okF T 25 40 rfl sc (fun _ _ _ _ _ _ us hl => match us, hl with | [_], _ => rfl) (fun vs H Q E ⟨_, e, _⟩ => by rw [e] <;> rfl) fun cdv A outer s H vs Q E hr ⟨⟨a, ls⟩, e, ⟨ha, hk, hn⟩, hQ, hE⟩ => ?_
  subst e
  have ha : H a = some (.lst (vS ls)) := ha
  have hk : LnsOk ls := hk
  have hn : ls.length ≤ 100000 := hn
  have hS : 200000 ≤ sizeLine := by rw [sizeLine_eq]; decide
  refine ⟨_, (pss_cons (ps_if (pt_cmpR op_eq (pe_callB call_len rfl (T.bl (x := "len")) (by decide +kernel) (pa_cons (pv 0) pa_nil)) pe_int (nomark _)) (pss_one (L2.ps_raise rfl (L2.takes_of rfl rfl rfl rfl) (pmk_of (L2H.PMk5.pmk (pmk5_it T.itT rfl (room1 hr) rfl T.mgIT (pa_cons pe_int (pa_cons pe_int pa_nil))))))) pss_nil)
 (pss_cons (ps_set (i := 1) sc.nd rfl (Or.inl rfl) (pe_wds (ok_init T) (hr.mono (by decide)) (pa_cons (pe_ix ix_list (pv 0) pe_int (fun _ _ => rfl)) (pa_cons pe_int pa_nil))))
 (pss_cons (ps_expr (pe_mt (pv 1) (ok_take_word T) (hr.mono (by decide)) passNL (pa_cons (pe_tup (pa_cons pe_str pa_nil)) pa_nil)))
 (pss_cons (ps_set (i := 2) sc.nd rfl (Or.inl rfl) (pe_mt (pv 1) (ok_take_word T) (hr.mono (by decide)) passNL (pa_cons (pe_glob (v := .ref (He.ga K "GUARD_WORDS")) rfl (T.tup T.tups.1).1 rfl) pa_nil)))
 (pss_cons (ps_set (i := 3) sc.nd rfl (Or.inl rfl) (pe_mt0 (pv 1) (ok_take_number T) (hr.mono (by decide)) passNL))
 (pss_cons (ps_set (i := 4) sc.nd rfl (Or.inl rfl) (pe_mt0 (pv 1) (ok_take_numbers T) (hr.mono (by decide)) passNL))
 (pss_cons (ps_set (i := 5) sc.nd rfl (Or.inl rfl) (pe_mt0 (pv 1) (ok_take_number T) (hr.mono (by decide)) passNL))
 (pss_cons (ps_expr (pe_mt0 (pv 1) (ok_finish T) (hr.mono (by decide)) passNL))
 (pss_cons (ps_set (i := 6) sc.nd rfl (Or.inl rfl) (pe_fn (ok_web_of_rows T) (hr.mono (by decide)) passLL (pa_cons (pe_slice sl_list (pv 0) (po_some pe_int) (po_some (pe_op op_add (pv 5) pe_int))) pa_nil)))
 (pss_cons (ps_if (pt_cmpR op_le (pe_callB call_len rfl (T.bl (x := "len")) (by decide +kernel) (pa_cons (pv 0) pa_nil)) (pv 5) (nomark _)) (pss_one (L2.ps_raise rfl (L2.takes_of rfl rfl rfl rfl) (pmk_of (L2H.PMk5.pmk (pmk5_it T.itT rfl (room1 hr) rfl T.mgIT (pa_cons (pe_callB call_len rfl (T.bl (x := "len")) (by decide +kernel) (pa_cons (pv 0) pa_nil)) (pa_cons pe_int pa_nil))))))) pss_nil)
 (pss_cons (ps_setLcX (E := E) (i := 8) (own := [("k", 7)]) (g := gName 7) rfl rfl (L2.takes_of rfl rfl rfl rfl) (by rfl) sc.nd rfl rfl (sw_true rfl rfl rfl (by decide +kernel)) (pi_range2 rfl (T.bl (x := "range")) (pa_cons (pe_op op_add (pv 5) pe_int) (pa_cons (pe_callB call_len rfl (T.bl (x := "len")) (by decide +kernel) (pa_cons (pv 0) pa_nil)) pa_nil))) (blkOk_by (own := [("k", 7)]) (N := ["lines", "words", "guard", "marks", "numbers", "many", "web", "k", "events"]) (sc := (defScope (topS 40))) (by decide +kernel)) (fun _ _ _ _ _ _ => (pg_name (i := 7) sc.nd rfl (.inl rfl) (hf := .inr rfl))) (fun _ _ _ _ _ _ pass => (pe_fn (ok_event_read T) (hr.mono (by decide)) (passes_le pass) (pa_cons (pe_ix (ix_listK (K := K) rfl) (pv 0) (pv 7) (fun _ _ => rfl)) (pa_cons (pv 7) pa_nil)))))
 (pss_one (ps_ret (pe_tup (pa_cons (pe_tup (pa_cons pe_str (pa_cons (pv 6) (pa_cons (pv 4) (pa_cons (pv 3) (pa_cons (pv 2) pa_nil)))))) (StX.pa_star (pv 8) pa_nil)))))))))))))))), ?_⟩
  cases ls with
  | nil =>
    refine ⟨_, rfl, _, _, rfl, .inl ⟨_, SqL.of ha, rfl⟩, rfl, _, rfl, ite_t rfl ⟨_, _, rfl, fun d hd => hE _ _ _ ⟨(0, 0), rfl, same_upd hd, rfl, d, rfl, upd_same⟩⟩⟩
  | cons x0 r0 =>
    have hx0 := hk.ok x0 (List.mem_cons_self ..)
    refine ⟨_, rfl, _, _, rfl, .inl ⟨_, SqL.of ha, rfl⟩, rfl, _, rfl, ite_f rfl ?_⟩
    refine ⟨_, rfl, a, _, 0, .str x0, rfl, rfl, SqL.of ha, atI_nat (j := 0) rfl, x0, 0, rfl, hx0.1.1, hx0.1.2, fun x l H1 s1 hx hl W0 => ?_⟩
    have W0 : WI K H1 x l (wds x0) 0 ((0 : Nat) : Int) := W0
    obtain ⟨ws, hws⟩ : ∃ ws, ws = wds x0 := ⟨_, rfl⟩
    rw [← hws] at W0
    obtain ⟨dx0, hd0⟩ := W0.ob
    have hxn : ∀ b o, H b = some o → b ≠ x := fun b o h => ne_of_none h hx
    have keep : ∀ {H' : Hp}, ExtX x H1 H' → Same H H' := fun e b o h => e b o (hxn b o h) (s1 b o h)
    have hfail : ∀ c d H' (s : Nat), spotF liveC ws 0 = some s → Same H H' → ItX K 0 (s : Nat) c d H' → E c d H' := fun c d H' s h1 h2 h3 => hE c d H' ⟨(0, s), by
      show logF (x0 :: r0) = _
      rw [logF_cons, ← hws, h1], h2, h3⟩
    refine ⟨_, rfl, x, dx0, _, rfl, hd0, rfl, by show 1 ≤ _; omega, fun p hp => ⟨(⟨x, l, ws, 0, 0⟩, p, ["live"]), rfl, ⟨WI.same W0 (same_upd hp), SqT.of upd_same⟩, fun r H2 q => ?_, fun c d H2 q => hfail c d H2 0 ?_ (keep (extX_trans (extX_same (same_upd hp)) q.2.1)) q.2.2⟩⟩
    rotate_left
    · have q1 : wat ws 0 ∉ (["live"] : List Str) := q.1
      simp only [liveC, spotF, cLive, decide_eq_false q1]
      rfl
    obtain ⟨m0, rfl, e1, W1⟩ := q
    have m0 : wat ws 0 ∈ (["live"] : List Str) := m0
    have W1 : WI K H2 x l ws 0 ((1 : Nat) : Int) := W1
    have e1 : ExtX x H1 H2 := extX_trans (extX_same (same_upd hp)) e1
    obtain ⟨dx1, hd1⟩ := W1.ob
    refine ⟨_, rfl, x, dx1, _, rfl, hd1, rfl, (⟨x, l, ws, 0, 1⟩, He.ga K "GUARD_WORDS", ["on", "off"]), rfl, ⟨W1, (T.tup T.tups.1).2 _⟩, fun r H3 q => ?_, fun c d H3 q => hfail c d H3 1 ?_ (keep (extX_trans e1 q.2.1)) q.2.2⟩
    rotate_left
    · have q1 : wat ws 1 ∉ (["on", "off"] : List Str) := q.1
      simp only [liveC, spotF, cLive, decide_eq_true m0, cGuard, decide_eq_false q1]
      rfl
    obtain ⟨m1, rfl, e2, W2⟩ := q
    have m1 : wat ws 1 ∈ (["on", "off"] : List Str) := m1
    have W2 : WI K H3 x l ws 0 ((2 : Nat) : Int) := W2
    have e2 : ExtX x H1 H3 := extX_trans e1 e2
    obtain ⟨dx2, hd2⟩ := W2.ob
    refine ⟨_, rfl, x, dx2, _, rfl, hd2, rfl, ⟨x, l, ws, 0, 2⟩, rfl, W2, fun r H4 q => ?_, fun c d H4 q => hfail c d H4 2 ?_ (keep (extX_trans e2 q.2.1)) q.2.2⟩
    rotate_left
    · have q1 : numO (wat ws 2) = none := q.1
      simp only [liveC, spotF, cLive, decide_eq_true m0, cGuard, decide_eq_true m1, cNum, q1]
      rfl
    obtain ⟨⟨y2, m2, rfl⟩, e3, W3⟩ := q
    have m2 : numO (wat ws 2) = some y2 := m2
    have W3 : WI K H4 x l ws 0 ((3 : Nat) : Int) := W3
    have e3 : ExtX x H1 H4 := extX_trans e2 e3
    obtain ⟨dx3, hd3⟩ := W3.ob
    refine ⟨_, rfl, x, dx3, _, rfl, hd3, rfl, ⟨x, l, ws, 0, 3⟩, rfl, W3, fun r H5 q => ?_, fun c d H5 q => hfail c d H5 3 ?_ (keep (extX_trans e3 q.2.1)) q.2.2⟩
    rotate_left
    · have q1 : nmsB (wat ws 3) = false := q.1
      simp only [liveC, spotF, cLive, decide_eq_true m0, cGuard, decide_eq_true m1, cNum, m2, q1]
      rfl
    obtain ⟨m3, ⟨na, rfl, hna⟩, e4, W4⟩ := q
    have m3 : nmsB (wat ws 3) = true := m3
    have W4 : WI K H5 x l ws 0 ((4 : Nat) : Int) := W4
    have e4 : ExtX x H1 H5 := extX_trans e3 e4
    obtain ⟨dx4, hd4⟩ := W4.ob
    refine ⟨_, rfl, x, dx4, _, rfl, hd4, rfl, ⟨x, l, ws, 0, 4⟩, rfl, W4, fun r H6 q => ?_, fun c d H6 q => hfail c d H6 4 ?_ (keep (extX_trans e4 q.2.1)) q.2.2⟩
    rotate_left
    · have q1 : numO (wat ws 4) = none := q.1
      simp only [liveC, spotF, cLive, decide_eq_true m0, cGuard, decide_eq_true m1, cNum, m2, m3, q1]
      rfl
    obtain ⟨⟨y4, m4, rfl⟩, e5, W5⟩ := q
    have m4 : numO (wat ws 4) = some y4 := m4
    have W5 : WI K H6 x l ws 0 ((5 : Nat) : Int) := W5
    have e56 : ExtX x H5 H6 := e5
    have e5 : ExtX x H1 H6 := extX_trans e4 e5
    have hna : SqT K H6 na ((prts (wat ws 3)).map fun x => ov (cntO x)) := sqT_tupX (tupX_WI W4 e56) hna
    obtain ⟨dx5, hd5⟩ := W5.ob
    have hsp : spotF liveC ws 0 = if ws.length ≤ 5 then none else some 5 := by
      simp only [liveC, spotF, cLive, decide_eq_true m0, cGuard, decide_eq_true m1, cNum, m2, m3, m4]
      rfl
    refine ⟨_, rfl, x, dx5, _, rfl, hd5, rfl, ⟨x, l, ws, 0, 5⟩, rfl, W5, fun r H7 q => ?_, fun c d H7 q => hfail c d H7 5 ?_ (keep (extX_trans e5 q.2.1)) q.2.2⟩
    rotate_left
    · have q1 : 5 < ws.length := q.1
      rw [hsp, if_neg (by omega)]
    obtain ⟨m5, rfl, rfl⟩ := q
    have m5 : ws.length ≤ 5 := m5
    rw [if_pos m5] at hsp
    have k6 := keep e5
    have hm : y4 = ((manyN x0 : Nat) : Int) := by rw [num_val m4, hws] <;> rfl
    subst hm
    have hlog : logF (x0 :: r0) = match webF 0 false (rowsN x0 r0) with
      | some p => some (p.1 + 1, p.2)
      | none => if r0.length < manyN x0 then some (r0.length + 1, 0) else evF (manyN x0 + 1) (r0.drop (manyN x0)) := by
      rw [logF_cons, ← hws, hsp]
    -- the rows
    refine ⟨_, rfl, 1, rfl, _, rfl, _, _, rfl, rfl, _, rfl, a, vS (x0 :: r0), rfl, SqL.of (k6 _ _ ha), fun ra hra => ?_⟩
    have hrow : (upd H7 ra (.lst (cutV (vS (x0 :: r0)) (some 1) (some (((manyN x0 : Nat) : Int) + 1))))) ra = some (.lst (vS (rowsN x0 r0))) := by
      rw [upd_same, cut_rows] <;> rfl
    have hrl : (rowsN x0 r0).length ≤ 100000 := by
      unfold rowsN
      rw [List.length_take]
      simp only [List.length_cons] at hn
      omega
    have k7 : Same H (upd H7 ra (.lst (cutV (vS (x0 :: r0)) (some 1) (some (((manyN x0 : Nat) : Int) + 1))))) := k6.trans (same_upd hra)
    refine ⟨(ra, rowsN x0 r0), rfl, ⟨hrow, hk.rows _, hrl⟩, fun r H8 q => ?_, fun c d H8 q => ?_⟩
    rotate_left
    · obtain ⟨p, q1, q2, q3⟩ := q
      have q1 : webF 0 false (rowsN x0 r0) = some p := q1
      refine hE c d H8 ⟨(p.1 + 1, p.2), ?_, k7.trans q2, q3⟩
      show logF (x0 :: r0) = _
      rw [hlog, q1]
    obtain ⟨q1, hweb, s8⟩ := q
    have q1 : webF 0 false (rowsN x0 r0) = none := q1
    rw [q1] at hlog
    have k8 : Same H H8 := k7.trans s8
    have hna8 : SqT K H8 na ((prts (wat ws 3)).map fun x => ov (cntO x)) := sqT_same s8 (sqT_same (same_upd hra) hna)
    refine ⟨_, rfl, _, _, rfl, .inl ⟨_, SqL.of (k8 _ _ ha), rfl⟩, _, rfl, _, _, rfl, rfl, _, rfl, ?_⟩
    have hl8 : (vS (x0 :: r0)).length = r0.length + 1 := by simp
    by_cases hlt : r0.length < manyN x0
    · refine ite_t (decide_eq_true (by rw [hl8]; omega)) ⟨_, rfl, _, _, rfl, .inl ⟨_, SqL.of (k8 _ _ ha), rfl⟩, _, _, rfl, fun d hd => hE _ _ _ ⟨(r0.length + 1, 0), ?_, k8.trans (same_upd hd), rfl, d, rfl, ?_⟩⟩
      · show logF (x0 :: r0) = _
        rw [hlog]
        exact if_pos hlt
      · rw [upd_same, hl8] <;> rfl
    · have hlog : logF (x0 :: r0) = evF (manyN x0 + 1) (r0.drop (manyN x0)) := by
        rw [hlog]
        exact if_neg hlt
      refine ite_f (decide_eq_false (by rw [hl8]; omega)) ?_
      have hn2 : r0.length + 1 ≤ 100000 := hn
      refine ⟨_, rfl, _, _, rfl, rfl, _, rfl, _, _, rfl, .inl ⟨_, SqL.of (k8 _ _ ha), rfl⟩, _, _, rfl, ⟨?_, ?_, ?_, ?_⟩, fun D hD => ?_⟩
      · have h1 : (0 : Int) ≤ ((manyN x0 : Nat) : Int) + 1 := by omega
        exact Int.le_trans (by decide) h1
      · have h1 : ((manyN x0 : Nat) : Int) + 1 ≤ 100000 := by omega
        exact Int.lt_of_le_of_lt h1 (by decide)
      · have h1 : (0 : Int) ≤ (((vS (x0 :: r0)).length : Nat) : Int) := by omega
        exact Int.le_trans (by decide) h1
      · have h1 : (((vS (x0 :: r0)).length : Nat) : Int) ≤ 100000 := by rw [hl8]; omega
        exact Int.lt_of_le_of_lt h1 (by decide)
      obtain ⟨cnt, hcnt⟩ : ∃ cnt, cnt = ((((vS (x0 :: r0)).length : Nat) : Int) - (((manyN x0 : Nat) : Int) + 1)).toNat := ⟨_, rfl⟩
      have hcnt2 : cnt = (r0.drop (manyN x0)).length := by
        rw [hcnt, hl8, List.length_drop]
        omega
      rw [← hcnt]
      refine lcw (walk_range (n := cnt)) fram_same hD (by rw [hcnt2, List.length_drop]; omega) (fun _ _ => trivial) (fun i acc H => ImAll K H acc (((r0.drop (manyN x0)).take i).map fun y => evD (wds y)) ∧ evF (manyN x0 + 1) (r0.drop (manyN x0)) = evF (manyN x0 + 1 + i) ((r0.drop (manyN x0)).drop i))
        (fun i acc H H' e h => ⟨ims_mono e h.1, h.2⟩) ⟨ims_nil, rfl⟩ (fun i y acc H9 H10 hi r9 hy hI hacc => ?_) (fun H9 acc r9 hacc hI => ?_)
      · obtain ⟨rfl, rfl⟩ := hy
        intro Zk Zs hkp _
        have hi2 : i < (r0.drop (manyN x0)).length := by rw [← hcnt2]; exact hi
        obtain ⟨y, hy⟩ : ∃ y, (r0.drop (manyN x0))[i]? = some y := ⟨_, List.getElem?_eq_getElem hi2⟩
        have hdr : (r0.drop (manyN x0)).drop i = y :: (r0.drop (manyN x0)).drop (i + 1) := by
          rw [List.drop_eq_getElem_cons hi2]
          rw [List.getElem?_eq_getElem hi2] at hy
          rw [Option.some.inj hy]
        have hat : (vS (x0 :: r0))[manyN x0 + 1 + i]? = some (V.str y) := by
          have h1 : r0[manyN x0 + i]? = some y := by rw [List.getElem?_drop] at hy; exact hy
          rw [List.getElem?_map, show manyN x0 + 1 + i = (manyN x0 + i) + 1 from by omega, List.getElem?_cons_succ, h1] <;> rfl
        have hty := (hk.ok y (List.mem_cons_of_mem _ (List.mem_of_mem_drop (List.mem_of_getElem? hy)))).1
        have ek : ((manyN x0 : Nat) : Int) + 1 + ((i : Nat) : Int) = ((manyN x0 + 1 + i : Nat) : Int) := by omega
        refine ⟨rfl, yes_turn ⟨_, rfl, _, rfl, a, _, _, .str y, rfl, rfl, SqL.of (r9 _ _ (k8 _ _ ha)), at_of ek hat, _, rfl, (y, manyN x0 + 1 + i), ?_, hty, fun r H11 q => hkp _ _ q.2.2 ⟨?_, ?_⟩, fun c d H11 q => ?_⟩⟩
        · show [V.str y, V.int _] = [V.str y, V.int _]
          rw [ek]
        · rw [List.take_succ, hy, List.map_append]
          exact ims_app (ims_mono (tupX_same q.2.2) hI.1) (ims_cons q.2.1 ims_nil)
        · have q1 : evSpot (wds y) = none := q.1
          rw [hI.2, hdr, evF_cons, q1] <;> rfl
        · obtain ⟨s, q1, q2, q3⟩ := q
          have q1 : evSpot (wds y) = some s := q1
          refine hE c d H11 ⟨(manyN x0 + 1 + i, s), ?_, (k8.trans r9).trans q2, q3⟩
          show logF (x0 :: r0) = _
          rw [hlog, hI.2, hdr, evF_cons, q1]
      · refine ⟨_, rfl, _, rfl, _, rfl, _, rfl, by show 5 ≤ _; omega, fun t1 ht1 => ⟨_, rfl, D, acc, rfl, .inr (SqL.of (same_upd ht1 _ _ hacc)), ?_, fun t2 ht2 => hQ _ _ ⟨?_, ?_, ((k8.trans r9).trans (same_upd ht1)).trans (same_upd ht2)⟩⟩⟩
        · have h1 := ims_len hI.1
          rw [List.length_map, hcnt2, List.take_length, List.length_drop] at h1
          show (_ :: (acc ++ [])).length ≤ _
          rw [List.append_nil, List.length_cons, h1]
          omega
        · show logF (x0 :: r0) = none
          rw [hlog, hI.2, hcnt2, List.drop_length] <;> rfl
        · have hI1 := hI.1
          rw [hcnt2, List.take_length] at hI1
          have z1 : Im K (upd H9 t1 (.tup [V.str ("live" : Str), r, V.ref na, V.int y2, V.str (wat ws 1)])) (.ref t1) (liveD x0 (rowsN x0 r0)) := by
            unfold liveD
            rw [← hws, num_val m2]
            have w1 := im_mono (tupX_new (o := .tup [V.str ("live" : Str), r, V.ref na, V.int y2, V.str (wat ws 1)]) ht1) (im_mono (tupX_same r9) hweb)
            have w2 : SqT K (upd H9 t1 (.tup [V.str ("live" : Str), r, V.ref na, V.int y2, V.str (wat ws 1)])) na ((prts (wat ws 3)).map fun x => ov (cntO x)) := sqT_same (same_upd ht1) (sqT_same r9 hna8)
            rw [num_val m2] at w1 w2
            exact im_tup (SqT.of upd_same) (ims_cons (im_str _) (ims_cons w1 (ims_cons (im_tup w2 (ims_nums m3)) (ims_cons (im_int _) (ims_cons (im_str _) ims_nil)))))
          show Im K _ (.ref t2) (.tuple (liveD x0 (rowsN x0 r0) :: (r0.drop (manyN x0)).map fun y => evD (wds y)))
          refine im_tup (SqT.of upd_same) (ims_cons (im_mono (tupX_new ht2) z1) ?_)
          rw [List.append_nil]
          exact ims_mono (tupX_new ht2) (ims_mono (tupX_new ht1) hI1)
end
end Fl

-- KS
/-! sets whose members are ints and texts: set(a list), sorted(such a set of texts); after the kit's own road for sets of ints -/
namespace Fl
open PySem PySem.Spec PyProof.Rows L2
/-- the key that a value is -/
def kyOf : Value → Key
  | .int i _ => .inl i
  | .str x _ => .inr x
  | _ => .inl 0
theorem kyOf_is {k : Key} {v : Value} (h : keyIs k v = true) : kyOf v = k := by
  rcases keyIs_shape h with ⟨i, t, rfl, rfl⟩ | ⟨x, t, rfl, rfl⟩ <;> rfl
/-- an entry of such a set's table -/
def EnM (P : Program) (w : World) (e : Int × Value) : Prop := ∃ k, keyIs k e.2 = true ∧ e.1 = (mixKind P w).hash k
/-- the keys of the entries -/
def kys (l : List (Int × Value)) : List Key := l.map fun e => kyOf e.2
section
variable {P : Program} {w : World}
theorem scan_key {k : Key} {v : Value} (h : keyIs k v = true) : v.scannable = true := by
  rcases keyIs_shape h with ⟨i, t, rfl, rfl⟩ | ⟨x, t, rfl, rfl⟩ <;> rfl
theorem enM_elems {l : List (Int × Value)} (g : ∀ e ∈ l, EnM P w e) : ElemsOf (mixKind P w) l := by
  intro e he
  obtain ⟨k, h1, h2⟩ := g e he
  exact ⟨⟨k, h1, h2⟩, scan_key h1⟩
theorem enM_key {e : Int × Value} (g : EnM P w e) (k : Key) : (mixKind P w).is k e.2 = true ↔ kyOf e.2 = k := by
  obtain ⟨k0, h1, _⟩ := g
  have e1 := kyOf_is h1
  constructor
  · exact fun h => kyOf_is h
  · intro h
    rw [← h, e1]
    exact h1
theorem mem_kys {l : List (Int × Value)} (g : ∀ e ∈ l, EnM P w e) (k : Key) : k ∈ kys l ↔ ∃ e ∈ l, (mixKind P w).is k e.2 = true := by
  unfold kys
  rw [List.mem_map]
  exact ⟨fun ⟨e, he, q⟩ => ⟨e, he, (enM_key (g e he) k).mpr q⟩, fun ⟨e, he, q⟩ => ⟨e, he, (enM_key (g e he) k).mp q⟩⟩
/-- the set at a: ks its keys as they stand in its table -/
structure SetM (P : Program) (w : World) (h : Heap) (a : Addr) (ks : List Key) : Prop where
  ex : ∃ ob en ep tb, h.get? a = some ob ∧ ob.ExactSet ∧ ob.data = .set en ep tb ∧ (∀ e ∈ en.toList, EnM P w e) ∧ kys en.toList = ks ∧ en.size < scanBound ∧ tb.fits en.size = true ∧ Ris tb.place.toList ∧ (w.params.followText "set-order" = true ∨ tb.led = true)
  nd : ks.Nodup
theorem SetM.moved {h h' : Heap} {a : Addr} {ks : List Key} (M : SetM P w h a ks) (k : ∀ o, h.get? a = some o → h'.get? a = some o) : SetM P w h' a ks := by
  obtain ⟨ob, en, ep, tb, e, r⟩ := M.ex
  exact ⟨⟨ob, en, ep, tb, k ob e, r⟩, M.nd⟩
theorem setM_new {h : Heap} {a : Addr} (e : h.get? a = some { cls := .type "set", dict := none, data := .set #[] 0 (.fresh 0 0 (!w.params.followText "set-order")) }) : SetM P w h a [] := by
  refine ⟨⟨_, #[], 0, _, e, ⟨rfl, rfl, rfl⟩, rfl, (fun x hx => by simp at hx), rfl, by decide, by rfl, List.Pairwise.nil, ?_⟩, List.nodup_nil⟩
  cases hw : w.params.followText "set-order" with
  | true => exact .inl rfl
  | false => exact .inr rfl
end
section
variable {P : Program} {w : World} {A : Around} {E : Value → Shared → Prop} {s : Shared} {a : Addr} {ks : List Key}
/-- an entry stored, the table laid anew where it is too full -/
theorem setM_store {f : Bool → Sem Unit} (hf : ∀ (b : Bool) (s1 : Shared) (Q' : Unit → Shared → Prop), Q' () s1 → wpAny (model P w) A (f b) Q' E s1) {ob : Obj} {en : Array (Int × Value)} {ep : Nat} {tb : SetTable} (h1 : s.heap.get? a = some ob) (h2 : ob.ExactSet) (h3 : ob.data = .set en ep tb)
    {en1 : Array (Int × Value)} {tb1 : SetTable} (g1 : ∀ e ∈ en1.toList, EnM P w e) (nd1 : (kys en1.toList).Nodup) (b1 : en1.size < scanBound) (f1 : tb1.fits en1.size = true) (r1 : Ris tb1.place.toList) (l1 : w.params.followText "set-order" = true ∨ tb1.led = true) {dum : Bool}
    {R : Option Bool → Shared → Prop} (hR : ∀ h' ks', Heap.SameBut a s.heap h' → SetM P w h' a ks' → ks'.Perm (kys en1.toList) → R (some true) { s with heap := h' }) :
    wpAny (model P w) A (do
        storeSet a en1 tb1
        if (!dum && tb1.tooFull) = true then do
            f (relayAll tb1 en1 (SetTable.grown en1.size)).2.2
            storeSet a (relayAll tb1 en1 (SetTable.grown en1.size)).1 (relayAll tb1 en1 (SetTable.grown en1.size)).2.1
            pure (some true)
          else pure (some true)) R E s := by
  have at1 := store_at (es' := en1) (t' := tb1) h1 h3
  have same1 := Heap.SameBut.update s.heap a (Obj.putSet en1 tb1)
  refine wpAny_bind (wpAny_storeSet_of h1 h3 ?_ (fits_of_scanBound b1))
  by_cases hfull : (!dum && tb1.tooFull) = true
  · rw [if_pos hfull]
    have per := relayAll_perm tb1 en1 (SetTable.grown en1.size)
    have fit := relayAll_fits tb1 en1 (SetTable.grown en1.size)
    have ris := relayAll_ris tb1 en1 (SetTable.grown en1.size)
    have led := relayAll_led tb1 en1 (SetTable.grown en1.size)
    obtain ⟨Z, hZ⟩ : ∃ Z, Z = relayAll tb1 en1 (SetTable.grown en1.size) := ⟨_, rfl⟩
    rw [← hZ] at per fit ris led ⊢
    obtain ⟨en2, tb2, gave⟩ := Z
    dsimp only at per fit ris led ⊢
    have size2 : en2.size = en1.size := by
      have := per.length_eq
      simpa using this
    refine wpAny_bind (hf _ _ _ (wpAny_bind (wpAny_storeSet_of at1 rfl ?_ (fits_of_scanBound (by rw [size2]; exact b1)))))
    have at2 := store_at (es' := en2) (t' := tb2) at1 rfl
    have pk : (kys en2.toList).Perm (kys en1.toList) := per.map _
    refine wpAny_pure (hR _ _ (same1.trans (Heap.SameBut.update _ a _)) ⟨⟨_, en2, _, tb2, at2, h2, rfl, fun e he => g1 e (per.mem_iff.mp he), rfl, by rw [size2]; exact b1, fit, ris, l1.imp id fun z => led.trans z⟩, pk.nodup_iff.mpr nd1⟩ pk)
  · rw [if_neg hfull]
    exact wpAny_pure (hR _ _ same1 ⟨⟨_, en1, _, tb1, at1, h2, rfl, g1, rfl, b1, f1, r1, l1⟩, nd1⟩ (List.Perm.refl _))
theorem gaveW (b : Bool) (s1 : Shared) (Q' : Unit → Shared → Prop) (q : Q' () s1) : wpAny (model P w) A (match b with | true => rule "set.scan.the-table-gave-way" | false => pure ()) Q' E s1 := by
  cases b
  · exact wpAny_pure q
  · exact wpAny_rule q
/-- one key more -/
theorem setM_add {k : Key} {v : Value} {Q : Bool → Shared → Prop} (M : SetM P w s.heap a ks) (hk : keyIs k v = true) (room : ks.length + 1 < scanBound)
    (hQ : ∀ h' ks' b, Heap.SameBut a s.heap h' → SetM P w h' a ks' → ((k ∈ ks ∧ ks'.Perm ks) ∨ (k ∉ ks ∧ ks'.Perm (k :: ks))) → Q b { s with heap := h' }) : wpAny (model P w) A (setAddHashed a v ((mixKind P w).hash k)) Q E s := by
  obtain ⟨⟨ob, en, ep, tb, h1, h2, h3, g, hks, bd, fit, ris, led⟩, nd⟩ := M
  have isk : (mixKind P w).is k v = true := hk
  have scan : v.scannable = true := scan_key hk
  have els : ElemsOf (mixKind P w) en.toList := enM_elems g
  unfold setAddHashed setAddHashedIn
  refine wpAny_holding (wpAny_bind (wpAny_setState_of h1 h3 fit ?_))
  dsimp only
  rw [byScan_of scan bd els]
  simp only [↓reduceIte]
  unfold setAddByScan
  refine wpAny_bind (wpAny_bind (wpAny_rule (wpAny_bind (wpAny_setScan_of isk h1 h3 fit els ?_))))
  cases find : List.findIdx? (fun e => (mixKind P w).is k e.2) en.toList with
  | some j =>
    obtain ⟨hj, pj, _⟩ := List.findIdx?_eq_some_iff_getElem.mp find
    have hin : k ∈ ks := by
      rw [← hks]
      exact (mem_kys g k).mpr ⟨_, List.getElem_mem hj, pj⟩
    dsimp only
    refine wpAny_pure (wpAny_pure (hQ s.heap ks _ (Heap.SameBut.refl a s.heap) ⟨⟨ob, en, ep, tb, h1, h2, h3, g, hks, bd, fit, ris, led⟩, nd⟩ (.inl ⟨hin, List.Perm.refl _⟩)))
  | none =>
    have hout : k ∉ ks := fun z => by
      rw [← hks] at z
      obtain ⟨e, he, q⟩ := (mem_kys g k).mp z
      have c := List.findIdx?_eq_none_iff.mp find e he
      rw [q] at c
      cases c
    dsimp only
    have per := layNew_perm tb en ((mixKind P w).hash k) v
    have fit1 := layNew_fits tb en ((mixKind P w).hash k) v
    have ris1 := layNew_ris tb en ((mixKind P w).hash k) v ris
    have led1 := layNew_led tb en ((mixKind P w).hash k) v
    obtain ⟨Z, hZ⟩ : ∃ Z, Z = layNew tb en ((mixKind P w).hash k) v := ⟨_, rfl⟩
    rw [← hZ] at per fit1 ris1 led1 ⊢
    obtain ⟨en1, tb1, dum, gave⟩ := Z
    dsimp only at per fit1 ris1 led1 ⊢
    rw [Array.toList_push] at per
    have pc : en1.toList.Perm (((mixKind P w).hash k, v) :: en.toList) := per.trans (List.perm_append_singleton _ _)
    have pk : (kys en1.toList).Perm (k :: ks) := by
      have q := pc.map fun e : Int × Value => kyOf e.2
      rw [List.map_cons, kyOf_is hk] at q
      rw [← hks]
      exact q
    have g1 : ∀ e ∈ en1.toList, EnM P w e := fun e he => by
      rcases List.mem_cons.mp (pc.mem_iff.mp he) with z | z
      · rw [z]
        exact ⟨k, hk, rfl⟩
      · exact g e z
    have nd1 : (kys en1.toList).Nodup := pk.nodup_iff.mpr (List.nodup_cons.mpr ⟨hout, nd⟩)
    have sz1 : en1.size = ks.length + 1 := by
      have q := pk.length_eq
      simpa [kys] using q
    have b1 : en1.size < scanBound := by rw [sz1]; exact room
    have l1 : w.params.followText "set-order" = true ∨ tb1.led = true := led.imp id fun z => led1.trans z
    have fin : ∀ h' ks' b, Heap.SameBut a s.heap h' → SetM P w h' a ks' → ks'.Perm (kys en1.toList) → Q b { s with heap := h' } := fun h' ks' b sb r pm => hQ h' ks' b sb r (.inr ⟨hout, pm.trans pk⟩)
    refine wpAny_bind (gaveW _ _ _ ?_)
    split
    · refine wpAny_bind ?_
      rw [hashByValue_scannable 8 scan]
      refine wpAny_pure ?_
      refine setM_store gaveW h1 h2 h3 g1 nd1 b1 ?_ ?_ ?_ fun h' ks' sb r pm => ?_
      · first | (split <;> first | exact fit1 | exact SetTable.fits_plain_off fit1) | exact fit1
      · first | (split <;> exact ris1) | exact ris1
      · first | (split <;> exact l1) | exact l1
      · dsimp only
        exact wpAny_pure (fin h' ks' _ sb r pm)
    · refine wpAny_bind (wpAny_pure ?_)
      simp only [↓reduceIte]
      refine setM_store gaveW h1 h2 h3 g1 nd1 b1 fit1 ris1 l1 fun h' ks' sb r pm => ?_
      dsimp only
      exact wpAny_pure (fin h' ks' _ sb r pm)
end
/-! ### set(xs), xs a list of texts -/
section
variable {P : Program} {w : World} {A : Around} {E : Value → Shared → Prop} {s : Shared}
abbrev keyT (ss : List Str) : List Key := ss.map Sum.inr
theorem setM_loop {I : Addr} {fp wr : List Addr} {G : Array GenState → Array GenState → Prop} {n : Nat} {Pv : Nat → Value → Prop} {St : Nat → Shared → Prop} {R : Result → Shared → Prop} (W : WalksS P w A.in1 I fp wr G n Pv St) (D : Addr) (hD : D ∉ fp) (ss : List Str)
    (hn : n = ss.length) (hb : ss.length + 1 < scanBound) (hv : ∀ i v, Pv i v → ∃ x t, ss[i]? = some x ∧ v = .str x t) :
    ∀ (left i : Nat) (s : Shared) (ks : List Key), n - i = left → i ≤ n → St i s → SetM P w s.heap D ks → ks.length ≤ i → (∀ k, k ∈ ks ↔ k ∈ keyT (ss.take i)) →
      (∀ s' ks', Moved (D :: wr) G s s' → SetM P w s'.heap D ks' → (∀ k, k ∈ ks' ↔ k ∈ keyT ss) → ks'.length ≤ n → R (.ok (.ret .none)) s') → codeAny (model P w) A (.builtin "set.update.loop" ⟨[.ref D, .ref I], []⟩) R s := by
  have away : D ∉ wr := fun z => hD (W.sub _ z)
  have more : ∀ b ∈ wr, b ∈ D :: wr := fun b z => List.mem_cons_of_mem _ z
  intro left
  induction left with
  | zero =>
    intro i s ks hl hi st M hlen hks hR
    obtain rfl : i = n := by omega
    refine codeAny_builtin F.entry_set_update_loop ?_
    rw [Around.under_plainId F.plain_set_update_loop _]
    show wpAny _ A.in1 (pyNext (.ref I) >>= _) _ _ s
    refine wpAny_bind (W.done s _ _ st fun s' mv => ?_)
    have e : ss.take i = ss := List.take_of_length_le (by omega)
    rw [e] at hks
    exact wpAny_pure (hR s' ks (mv.mono more) (M.moved fun o q => mv.heap D o away q) hks hlen)
  | succ left ih =>
    intro i s ks hl hi st M hlen hks hR
    have lt : i < n := by omega
    refine codeAny_builtin F.entry_set_update_loop ?_
    rw [Around.under_plainId F.plain_set_update_loop _]
    show wpAny _ A.in1 (pyNext (.ref I) >>= _) _ _ s
    refine wpAny_bind (W.item i s _ _ lt st fun v s1 hp st1 mv => ?_)
    obtain ⟨x, t, hx, rfl⟩ := hv i v hp
    have M1 : SetM P w s1.heap D ks := M.moved fun o q => mv.heap D o away q
    show wpAny _ A.in1 (holding [Value.str x t] (setAdd D (.str x t)) >>= _) _ _ s1
    refine wpAny_bind (wpAny_holding ?_)
    unfold setAdd
    refine wpAny_holding (wpAny_bind ((mixKind P w).pyHash (k := .inr x) (keyIs_str x t) ?_))
    refine setM_add (s := { s1 with toks := s1.toks + 1 }) M1 (keyIs_str x t) (by omega) fun h' ks2 b2 sb M2 pm => ?_
    have tk : ss.take (i + 1) = ss.take i ++ [x] := by rw [List.take_succ, hx] <;> rfl
    have mem2 : ∀ k, k ∈ ks2 ↔ k ∈ keyT (ss.take (i + 1)) := fun k => by
      rw [tk, show keyT (ss.take i ++ [x]) = keyT (ss.take i) ++ [.inr x] from List.map_append, List.mem_append]
      rcases pm with ⟨q, pm⟩ | ⟨q, pm⟩
      · rw [pm.mem_iff, hks k]
        refine ⟨.inl, fun z => z.elim id fun z => ?_⟩
        rw [List.mem_singleton.mp z]
        exact (hks _).mp q
      · rw [pm.mem_iff, List.mem_cons, hks k]
        exact ⟨fun z => z.elim (fun z => .inr (by rw [z]; exact List.mem_singleton.mpr rfl)) .inl, fun z => z.elim .inr fun z => .inl (List.mem_singleton.mp z)⟩
    have len2 : ks2.length ≤ i + 1 := by
      rcases pm with ⟨_, pm⟩ | ⟨_, pm⟩
      · rw [pm.length_eq]; omega
      · rw [pm.length_eq, List.length_cons]; omega
    refine wpAny_pure ⟨plainId_quiet F.plain_set_update_loop _, ih (i + 1) _ ks2 (by omega) lt (W.frame _ s1 _ _ st1 (Nat.le_succ _) fun b hb o q => ?_) M2 len2 mem2 fun s2 ks3 mv2 M3 m3 l3 => hR s2 ks3 (Moved.trans W.gtrans ((mv.mono more).then_heap (Nat.le_succ _) fun b o hb q => ?_) mv2) M3 m3 l3⟩
    · rw [sb.2 b fun z : b = D => hD (z ▸ hb)]
      exact q
    · rw [sb.2 b fun z : b = D => hb (z ▸ List.mem_cons_self)]
      exact q
end
end Fl

-- KS2
/-! set(a list of texts), sorted of it -/
namespace Fl
open PySem PySem.Spec PyProof.Rows L2
section
variable {P : Program} {w : World} {A : Around} {E : Value → Shared → Prop} {s : Shared}
abbrev newSet (w : World) : Obj := { cls := .type "set", dict := none, data := .set #[] 0 (.fresh 0 0 (!w.params.followText "set-order")) }
set_option maxRecDepth 100000 in
theorem set_of_list {l : Addr} {vs : Array Value} (ss : List Str) {Q : Value → Shared → Prop} (calm : A.handled = none) (hl : s.heap.IsList l vs) (hs : StrsAre vs.toList ss) (hb : ss.length + 1 < scanBound)
    (hQ : ∀ (h' : Heap) (tk : Nat) (ks : List Key), SetM P w h' s.heap.objs.size ks → (∀ k, k ∈ ks ↔ k ∈ keyT ss) → ks.length ≤ ss.length → (∀ b o, s.heap.get? b = some o → h'.get? b = some o) → Q (.ref s.heap.objs.size) { s with heap := h', toks := tk }) :
    wpAny (model P w) A (call (.type "set") [.ref l]) Q E s := by
  have size : vs.size = ss.length := by
    have q := hs.length
    rw [Array.length_toList] at q
    exact q
  obtain ⟨c0, t0, mro⟩ := F.called_set.mro
  have made := F.called_set.made
  have sub := F.called_set.sub
  refine wpAny_call (codeAny_of_tree ?_)
  show wpAny _ _ (callAny (.type "set") _) _ _ _
  refine wpAny_pure ⟨Code.quiet_builtin _ (by decide +kernel), codeAny_builtin F.entry_type_call ?_⟩
  rw [Around.under_plain (weight_type_call_type "set" [.ref l] []) rfl]
  have no := F.called_set.notType
  have can := F.called_set.canCreate
  have chk := F.typeCall_set_1 (.ref l)
  repeat (any_goals (first | assumption | wp_step))
  refine codeAny_mono (code_set_led1 (.ref l) (E := E) (Q₁ := fun ob s1 => ob = .ref s.heap.objs.size ∧ s1 = { s with heap := s.heap.push (newSet w) }) ⟨rfl, rfl⟩) fun r s1 hr => ?_
  cases r with
  | error e => exact hr
  | ok fl =>
    cases fl with
    | ret ob =>
      obtain ⟨rfl, rfl⟩ := hr
      have at0 : (s.heap.push (newSet w)).get? s.heap.objs.size = some (newSet w) := Heap.get?_push_size _ rfl
      have ty0 : Shared.TypeIs { s with heap := s.heap.push (newSet w) } (.ref s.heap.objs.size) "set" := ⟨_, at0, rfl⟩
      have look := F.called_set.init.lookup
      have bnd := F.called_set.init.bind (.ref s.heap.objs.size)
      repeat (any_goals (first | assumption | wp_step))
      refine codeAny_mono (codeAny_call_builtin (R := wants (fun r s2 => r = .none ∧ ∃ h' tk ks, s2 = { s with heap := h', toks := tk } ∧ SetM P w h' s.heap.objs.size ks ∧ (∀ k, k ∈ ks ↔ k ∈ keyT ss) ∧ ks.length ≤ ss.length ∧ (∀ b o, s.heap.get? b = some o → h'.get? b = some o)) E)
        F.called_set.init.plain F.entry_set_init (check_set_init_1 ty0 ?_)) fun r2 s2 hr2 => ?_
      · obtain ⟨ol, gl, cl, nl, dl⟩ := hl
        obtain ⟨oc, od, odt, osl⟩ := ol
        simp only at cl dl
        subst cl dl
        have gl1 : (s.heap.push (newSet w)).get? l = some { cls := .type "list", dict := od, data := .seq vs nl, slots := osl } := Heap.get?_push_of_some _ gl
        have sb1 := F.sub_list_set
        have sb2 := F.sub_list_frozenset
        have nd : (Value.type "list" == Value.type "dict") = false := by decide
        have hl1 : (s.heap.push (newSet w)).IsList l vs := ⟨_, gl1, rfl, nl, rfl⟩
        unfold Builtin.«set.__init__» noKeywords Builtin.Frozenset.updateFrom
        generalize hPI : pyIter = PI
        wp_walk
        subst hPI
        refine wpAny_pyIter_list hl1 (wpAny_bind (wpAny_runValue ?_))
        have lts : l < s.heap.objs.size := Heap.lt_size gl
        have calm3 : A.in1.in1.in1.handled = none := by simp [calm]
        have nI : l ≠ (s.heap.push (newSet w)).objs.size := by
          rw [Heap.size_push]
          exact Nat.ne_of_lt (Nat.lt_succ_of_lt lts)
        have nD : s.heap.objs.size ∉ [(s.heap.push (newSet w)).objs.size, l] := by
          rw [Heap.size_push]
          intro z
          rcases List.mem_cons.mp z with z | z
          · exact absurd z (Nat.ne_of_lt (Nat.lt_succ_self _))
          · exact absurd (List.mem_singleton.mp z) (Nat.ne_of_gt lts)
        have vals : ∀ (i : Nat) (v : Value), vs[i]? = some v → ∃ x t, ss[i]? = some x ∧ v = .str x t := fun i v hv => by
          have hi : i < ss.length := by rw [← size]; exact (Array.getElem?_eq_some_iff.mp hv).1
          obtain ⟨t, e⟩ := SS.strs_at hs i v (by rw [Array.getElem?_toList]; exact hv)
          refine ⟨ss[i], t, List.getElem?_eq_getElem hi, ?_⟩
          rw [e, List.getD_eq_getElem?_getD, List.getElem?_eq_getElem hi] <;> rfl
        refine setM_loop ((Walks.list calm3 _ l nI vs).toS) s.heap.objs.size nD ss size hb vals (vs.size - 0) 0 _ [] (by omega) (Nat.zero_le _) ⟨⟨_, Heap.get?_push_size _ rfl, rfl, rfl⟩, (hl1.push _)⟩ ?start (Nat.le_refl _) (fun k => by simp [keyT]) ?fin
        case start =>
          exact setM_new (Heap.get?_push_of_some _ at0)
        case fin =>
          intro s3 ks mv M mem len
          obtain ⟨h3, g3, d3, t3, o3⟩ := s3
          have e1 : g3 = s.gens := mv.gens
          have e2 : d3 = s.drawn := mv.drawn
          have e3 : o3 = s.os := mv.os
          subst e1 e2 e3
          show wpAny _ _ _ _ _ _
          refine wpAny_pure ?_
          show wpAny _ _ (ret Value.none) _ _ _
          refine wpAny_pure ⟨rfl, h3, t3, ks, rfl, M, mem, by rw [← size]; exact len, fun b o e => ?_⟩
          have bs : b < s.heap.objs.size := Heap.lt_size e
          refine mv.heap b o (fun z => ?_) (Heap.get?_push_of_some _ (Heap.get?_push_of_some _ e))
          rcases List.mem_cons.mp z with z | z
          · exact absurd z (Nat.ne_of_lt bs)
          · have z2 := List.mem_singleton.mp z
            rw [Heap.size_push] at z2
            exact absurd z2 (Nat.ne_of_lt (Nat.lt_succ_of_lt bs))
      · cases r2 with
        | error e => exact hr2
        | ok fl2 =>
          cases fl2 with
          | ret r =>
            obtain ⟨rfl, h', tk, ks, rfl, M, mem, len, kept⟩ := hr2
            repeat (any_goals (first | assumption | wp_step))
            exact hQ _ _ _ M mem len kept
          | _ => exact hr2.elim
    | _ => exact hr.elim
theorem strs_of_keys : ∀ (l : List Value), (∀ v ∈ l, ∃ x t, v = Value.str x t) → ∃ ss : List Str, StrsAre l ss ∧ l.map kyOf = keyT ss
  | [], _ => ⟨[], .nil, rfl⟩
  | v :: l, h => by
    obtain ⟨x, t, rfl⟩ := h v List.mem_cons_self
    obtain ⟨ss, h1, h2⟩ := strs_of_keys l fun u hu => h u (List.mem_cons_of_mem _ hu)
    exact ⟨x :: ss, .cons x t h1, by rw [List.map_cons, h2] <;> rfl⟩
/-- sorted(a set of texts) -/
theorem sorted_texts {a : Addr} {ks : List Key} {Q : Value → Shared → Prop} (M : SetM P w s.heap a ks) (hk : ∀ k ∈ ks, ∃ x, k = Sum.inr x) (calm : A.handled = none) (few : ks.length < 64)
    (hQ : ∀ s' p (out : Array Value) (c : Nat) (ys : List Str), (∀ b o, s.heap.get? b = some o → s'.heap.get? b = some o) → s'.gens = s.gens → s'.os = s.os → s.heap.objs.size ≤ p → s'.heap.get? p = some (seqObj "list" out c) → StrsAre out.toList ys → (keyT ys).Perm ks → sortedS ys = true → Q (.ref p) s') :
    wpAny (model P w) A (call (.builtin "sorted") [.ref a]) Q E s := by
  obtain ⟨⟨ob, en, ep, tb, h1, h2, h3, g, hks, bd, fit, ris, led⟩, nd⟩ := M
  refine Calls.call_function_entry kind_sorted plain_sorted entry_sorted (args_sorted1 _) ?_
  unfold Builtin.«sorted»
  refine wpAny_bind (m := checkCount "sorted" 1 1 _) (wpAny_pure (wpAny_bind (collect_set (A := A.in1) calm ⟨ob, h1, h2.1, h3⟩ fit bd ris led fun s1 vs k1 hz g1 o1 pm => ?_)))
  have vlen : vs.length = ks.length := by
    rw [pm.length_eq, ← hks]
    simp [kys]
  have texts : ∀ v ∈ vs, ∃ x t, v = Value.str x t := fun v hv => by
    obtain ⟨e, he, q⟩ := List.mem_map.mp (pm.mem_iff.mp hv)
    obtain ⟨k, e1, _⟩ := g e he
    have e2 := kyOf_is e1
    obtain ⟨x, ex⟩ := hk (kyOf e.2) (by rw [← hks]; exact List.mem_map_of_mem (f := fun e : Int × Value => kyOf e.2) he)
    rw [e2] at ex
    rw [ex] at e1
    rcases keyIs_shape e1 with ⟨i, t, z, _⟩ | ⟨y, t, _, z⟩
    · cases z
    · exact ⟨y, t, by rw [← q, z]⟩
  obtain ⟨ss, hS, hks2⟩ := strs_of_keys vs texts
  have pk : (keyT ss).Perm ks := by
    rw [← hks2, ← hks]
    have q := pm.map kyOf
    rw [List.map_map] at q
    exact q
  refine wpAny_bind (wpAny_newList ?_ (by rw [vlen, sizeLine_eq]; omega))
  have atL : (s1.heap.push (seqObj "list" vs.toArray 0)).get? s1.heap.objs.size = some (seqObj "list" vs.toArray 0) := Heap.get?_push_size _ rfl
  refine wpAny_bind (wpAny_holding (wpAny_call_entry slot_list_sort ⟨_, atL, rfl⟩ entry_list_sort (list_sort_treeK strKind_oneLt atL hS.keysOf (fun v1 v2 rest e => keyKind_strs (by rw [← e]; exact hS)) (by rw [vlen]; exact few) fun st' hp hs => ?_) (args_list_sort _)))
  obtain ⟨ys, a1, a2, a3⟩ := sorted_out_str hS hp hs
  refine ⟨_, rfl, ?_⟩
  obtain ⟨c, hc⟩ := sortedHeap_at (vs := vs) (out := (arrOf st').map (·.2)) atL
  refine wpAny_pure ⟨_, rfl, hQ _ s1.heap.objs.size _ c ys (fun b u e => ?_) g1 o1 hz hc a1 ((a2.map _).trans pk) a3⟩
  have q := k1 b u e
  have lt := Heap.lt_size q
  show (sortedHeap (s1.heap.push (seqObj "list" vs.toArray 0)) s1.heap.objs.size vs _).get? b = some u
  rw [sortedHeap_old (Nat.ne_of_lt lt) (by rw [size_push']; exact Nat.lt_succ_of_lt lt)]
  exact Heap.get?_push_of_some _ q
end
end Fl

-- KS3
/-! the same as rules -/
namespace Fl
open PySem PySem.Spec PyProof.Rows L2 TL
/-- a set of ints and texts at a: ks its keys -/
def SetMO (P : Program) (w : World) (a : Addr) (ks : List Key) : HO := .ext fun h => SetM P w h a ks
section
variable {X : Cx}
def rSetL (K : PySem.W.Frag) (P : Program) (w : World) : List V → Hp → VK → Prop := fun xs H Q => ∃ (p : Addr) (ss : List Str), xs = [.ref p] ∧ SqL K H p (vS ss) ∧ ss.length < 64 ∧ ∀ q ks, H q = none → (∀ k, k ∈ ks ↔ k ∈ keyT ss) → ks.length ≤ ss.length → Q (.ref q) (upd H q (SetMO P w q ks))
theorem call_setL (hc : X.calm = true) : CallR X (.type "set") (rSetL X.K X.prog X.w) := by
  intro pins s σ H xs us Q I r ⟨p, ss, e, hS, few, q⟩
  subst e
  obtain ⟨its, rv, hl, _⟩ := I.list hS
  rw [Vals.ref1 r]
  have hst : StrsAre its ss := strs_of_vals rv
  refine set_of_list (P := X.prog) (w := X.w) ss (I.ok.hd hc) hl.isList hst (by unfold scanBound; omega) fun h' tk ks M mem len kept => ?_
  have ob : ObjOk X.prog X.w (upd H s.heap.objs.size (SetMO X.prog X.w s.heap.objs.size ks)) h' s.heap.objs.size (SetMO X.prog X.w s.heap.objs.size ks) := by
    refine ⟨M, ?_, fun h1 h2 m k => m.moved k⟩
    obtain ⟨ob, _, _, _, g, _⟩ := M.ex
    exact ⟨ob, g⟩
  exact ⟨.ref s.heap.objs.size, _, I.laid (t' := tk) kept (Nat.le_refl _) ob, rfl, q _ ks (I.hok.fresh (Nat.le_refl _)) mem len⟩
def rSortSet (P : Program) (w : World) : List V → Hp → VK → Prop := fun xs H Q => ∃ (a : Addr) (ks : List Key), xs = [.ref a] ∧ H a = some (SetMO P w a ks) ∧ (∀ k ∈ ks, ∃ x, k = Sum.inr x) ∧ ks.length < 64 ∧
  ∀ p ys, H p = none → (keyT ys).Perm ks → (keyT ys).Nodup → sortedS ys = true → Q (.ref p) (upd H p (.lst (vS ys)))
theorem call_sortSet (hc : X.calm = true) : CallR X (.builtin "sorted") (rSortSet X.prog X.w) := by
  intro pins s σ H xs us Q I r ⟨a, ks, e, hS, hk, few, q⟩
  subst e
  rw [Vals.ref1 r]
  have M : SetM X.prog X.w s.heap a ks := (I.hok a _ hS).1
  refine sorted_texts (P := X.prog) (w := X.w) M hk (I.ok.hd hc) few fun s' p out c ys kept g o hp ho hst pm hsd => ?_
  have hlen : (vS ys).length ≤ sizeLine := by
    have := pm.length_eq
    rw [List.length_map] at this
    rw [List.length_map, sizeLine_eq]
    omega
  have fresh : H p = none := I.hok.fresh hp
  have ob : ObjOk X.prog X.w (upd H p (.lst (vS ys))) s'.heap p (.lst (vS ys)) := ⟨hlen, out.toList, c, vals_of_strs hst, ho⟩
  have J : Inv X pins σ (upd H p (.lst (vS ys))) { s with heap := s'.heap, gens := s'.gens, drawn := s'.drawn, toks := s'.toks } :=
    I.call (ch := []) (Un.laid kept hp fresh) (I.hok.laid kept hp ob) (by rw [g]; exact I.bare) (fun _ z => nomatch z)
  have es : s' = { s with heap := s'.heap, gens := s'.gens, drawn := s'.drawn, toks := s'.toks } := by
    obtain ⟨h1, g1, d1, t1, o1⟩ := s'
    obtain ⟨h2, g2, d2, t2, o2⟩ := s
    cases o
    rfl
  rw [es]
  exact ⟨.ref p, _, J, rfl, q p ys fresh pm (pm.nodup_iff.mpr M.nd) hsd⟩
/-- sorted(set(e)): the texts of e, each once, in order -/
theorem r_sortset {K : PySem.W.Frag} {P : Program} {w : World} {te : TE} {σ : L2.St} {H : Hp} {Q : VK} (h : te σ H fun v H1 => ∃ p ss, v = .ref p ∧ SqL K H1 p (vS ss) ∧ ss.length < 64 ∧ ∀ q ys H2, Same H1 H2 → H2 q = some (.lst (vS ys)) → ys.Nodup → (∀ x, x ∈ ys ↔ x ∈ ss) → sortedS ys = true → Q (.ref q) H2)
    (mono : ∀ {Q Q' : VK}, (∀ v H, Q v H → Q' v H) → te σ H Q → te σ H Q') : tCB (rSortSet P w) (tCons (tCB (rSetL K P w) (tCons te tNil)) tNil) σ H Q := by
  refine mono (fun v H1 ⟨p, ss, e, hS, few, q⟩ => ?_) h
  subst e
  refine ⟨p, ss, rfl, hS, few, fun d ks hd mem len => ⟨d, ks, rfl, upd_same, fun k hk => ?_, by omega, fun r ys hr pm nd sd => ?_⟩⟩
  · obtain ⟨x, _, e⟩ := List.mem_map.mp ((mem k).mp hk)
    exact ⟨x, e.symm⟩
  · refine q r ys _ ((same_upd hd).trans (same_upd hr)) upd_same (List.Pairwise.of_map Sum.inr (fun _ _ z e => z (by rw [e])) nd) (fun x => ?_) sd
    have h1 : (Sum.inr x : Key) ∈ keyT ys ↔ (Sum.inr x : Key) ∈ keyT ss := by rw [pm.mem_iff, mem]
    have inj : ∀ l : List Str, (Sum.inr x : Key) ∈ keyT l ↔ x ∈ l := fun l => by
      rw [List.mem_map]
      exact ⟨fun ⟨y, hy, e⟩ => by cases e; exact hy, fun hx => ⟨x, hx, rfl⟩⟩
    rw [inj, inj] at h1
    exact h1
end
end Fl

-- KL1
/-! the law's own reading of words: numbers, names -/
namespace Fl
open PySem PySem.Spec PyProof.Rows L2 TL RZ
/-! ### lists of texts, compared -/
abbrev sok (z : Str) : Prop := PyData.strOk z = true
theorem sok_iff {z : Str} : sok z ↔ ∀ c ∈ tl z, c < 0x110000 := by
  unfold sok PyData.strOk
  rw [Array.all_eq_true']
  simp [tl]
theorem sok_sub {z x : Str} (h : sok z) (hs : ∀ c ∈ tl x, c ∈ tl z) : sok x := sok_iff.mpr fun c hc => sok_iff.mp h c (hs c hc)
theorem spl_sub (S l acc : List Nat) (k : Nat) : ∀ x ∈ spl S k acc l, ∀ c ∈ x, c ∈ acc ∨ c ∈ l := by
  induction l generalizing k acc with
  | nil =>
    intro x hx c hc
    rw [spl_nil] at hx
    rw [List.mem_singleton.mp hx] at hc
    exact .inl hc
  | cons d r ih =>
    intro x hx c hc
    cases k with
    | succ k =>
      rw [spl_pass] at hx
      have h1 := ih acc k x
      rw [spl_pass] at h1
      exact (h1 hx c hc).imp id fun z => List.mem_cons_of_mem _ z
    | zero =>
      by_cases h : pre S (d :: r) = true
      · rw [spl_hit h] at hx
        rcases List.mem_cons.mp hx with rfl | hx
        · exact .inl hc
        · rcases ih [] (S.length - 1) x hx c hc with z | z
          · cases z
          · exact .inr (List.mem_cons_of_mem _ z)
      · rw [spl_miss (by simpa using h)] at hx
        rcases ih (acc ++ [d]) 0 x hx c hc with z | z
        · rcases List.mem_append.mp z with z | z
          · exact .inl z
          · rw [List.mem_singleton.mp z]
            exact .inr List.mem_cons_self
        · exact .inr (List.mem_cons_of_mem _ z)
theorem split_sub {z y : Str} {s : Nat} {S : List Nat} (e : tl y = s :: S) (h : y.cps.all (· < 256) = true) {x : Str} (hx : x ∈ Txt.split z y) : ∀ c ∈ tl x, c ∈ tl z := fun c hc => by
  have h1 : tl x ∈ spl (s :: S) 0 [] (tl z) := by
    rw [← split_tl z e h]
    exact List.mem_map_of_mem hx
  exact (spl_sub _ _ _ _ _ h1 c hc).resolve_left (by simp)
theorem sok_prts {z x : Str} (h : sok z) (hx : x ∈ prts z) : sok x := sok_sub h (split_sub (y := comS) (s := 44) (S := []) (by decide +kernel) (by decide +kernel) hx)
theorem sok_wds {z x : Str} (h : sok z) (hx : x ∈ wds z) : sok x := sok_sub h (split_sub (y := spcS) (s := 32) (S := []) (by decide +kernel) (by decide +kernel) hx)
theorem eqv_texts (a b : List Str) : PyData.eqv (.list (a.map .str)) (.list (b.map .str)) = decide (a = b) := by
  rw [PyData.eqv]
  exact PySem.W.eqvAll_map a b
theorem lay_texts : ∀ ss : List Str, (∀ x ∈ ss, sok x) → PyData.canLayAll0 (ss.map .str) = true
  | [], _ => rfl
  | x :: r, h => by
    rw [List.map_cons, PyData.canLayAll0, lay_texts r fun y hy => h y (List.mem_cons_of_mem _ hy), PyData.canLay0, h x List.mem_cons_self]
    rfl
theorem depth_texts (ss : List Str) : PyData.depth (.list (ss.map .str)) ≤ 64 := by
  have h := PySem.W.depthAll_map (α := Str) ss
  have h2 : PyData.depthAll (ss.map .str) ≤ 0 := h
  rw [PyData.depth]
  omega
theorem shaped_texts {ss : List Str} (h : ∀ x ∈ ss, sok x) : SeqAt.shaped (.list (ss.map .str)) = true := by
  unfold SeqAt.shaped
  rw [decide_eq_true (depth_texts ss), PyData.canLay0, lay_texts ss h]
  rfl
theorem dp_texts {K : PySem.W.Frag} {H : Hp} : ∀ ss : List Str, DpAll K H (vS ss) (ss.map .str)
  | [] => .nil
  | x :: r => .cons (.str x) (dp_texts r)
theorem dp_list {K : PySem.W.Frag} {H : Hp} {a : Addr} {ss : List Str} (h : SqL K H a (vS ss)) : Dp K H (.ref a) (.list (ss.map .str)) := .lst h (dp_texts ss)
/-! ### the signs that stand not in a text -/
abbrev sgn (c : Nat) : Str := ⟨#[c]⟩
def offs (z S : Str) : List Str := ((tl z).filter fun c => !decide (c ∈ tl S)).map sgn
theorem offs_nil (z S : Str) : decide (offs z S = []) = (tl z).all fun c => decide (c ∈ tl S) := by
  unfold offs
  rw [Bool.eq_iff_iff, decide_eq_true_eq, List.map_eq_nil_iff, List.filter_eq_nil_iff, List.all_eq_true]
  constructor
  · intro h c hc
    have := h c hc
    simpa using this
  · intro h c hc
    have := h c hc
    simpa using this
theorem offs_ok {z S : Str} (h : sok z) : ∀ x ∈ offs z S, sok x := fun x hx => by
  obtain ⟨c, hc, rfl⟩ := List.mem_map.mp hx
  refine sok_iff.mpr fun d hd => ?_
  rw [List.mem_singleton.mp hd]
  exact sok_iff.mp h c (List.mem_filter.mp hc).1
section
variable {K : PySem.W.Frag}
theorem r_offs {σ : L2.St} {H : Hp} {Q : VK} {te2 : TE} {i j : Nat} {z S : Str} (hz : z.length ≤ sizeLine) (hj : σ[j]? = some (some (.str z))) (hw : ∀ x : V, wipe ((wipe σ [i]).set i (some x)) [i] = wipe σ [i]) (hi : ∀ x : V, ((wipe σ [i]).set i (some x))[i]? = some (some x))
    (h2 : ∀ (x : V) (H' : Hp) (Q' : VK), Q' (.str S) H' → te2 ((wipe σ [i]).set i (some x)) H' Q') (h : ∀ H' D, Same H H' → H' D = some (.lst (vS (offs z S))) → Q (.ref D) H') :
    tLc (iStr (tVar j)) (gName i) (tTest (tOp (fun x y H Q => ∃ (c : Nat) (z : Str), x = .str ⟨#[c]⟩ ∧ y = .str z ∧ Q (.bl (!decide (c ∈ z.cps.toList))) H) (tVar i) te2)) (tVar i) [i] σ H Q := by
  refine ⟨_, hj, z, rfl, fun D hD => ?_⟩
  refine lcw (walk_str (z := z)) fram_same hD (by show z.cps.size ≤ _; exact hz) (fun _ _ => trivial) (fun i acc _ => acc = vS ((((tl z).take i).filter fun c => !decide (c ∈ tl S)).map sgn)) (fun _ _ _ _ _ h => h) (by simp) (fun k x acc H' H2 hk r y hI hacc => ?_) (fun H' acc r hacc hI => ?_)
  · obtain ⟨rfl, c, hc, rfl⟩ := y
    intro Zk Zs hkp hsk
    have hc2 : (tl z)[k]? = some c := by simpa [tl] using hc
    refine ⟨hw _, _, hi _, h2 _ _ _ ⟨c, S, rfl, rfl, _, rfl, ?_⟩⟩
    by_cases hm : c ∈ tl S
    · refine ite_f (by rw [show decide (c ∈ S.cps.toList) = true from decide_eq_true hm] <;> rfl) (hsk _ (Same.refl _) ?_)
      have e1 : (!decide (c ∈ tl S)) = false := by rw [decide_eq_true hm] <;> rfl
      rw [hI, List.take_succ, hc2, List.filter_append]
      simp only [Option.toList, List.filter_cons, List.filter_nil, e1, if_false, List.append_nil, Bool.false_eq_true]
    · refine ite_t (by rw [show decide (c ∈ S.cps.toList) = false from decide_eq_false hm] <;> rfl) ⟨_, hi _, hkp _ _ (Same.refl _) ?_⟩
      have e1 : (!decide (c ∈ tl S)) = true := by rw [decide_eq_false hm] <;> rfl
      rw [hI, List.take_succ, hc2, List.filter_append]
      simp only [Option.toList, List.filter_cons, List.filter_nil, e1, if_true, List.map_append, List.map_cons, List.map_nil]
  · have hl : (tl z).length = z.cps.size := by simp [tl]
    rw [← hl, List.take_length] at hI
    exact h H' D r (by rw [hacc, hI] <;> rfl)
end
theorem by_test {t : TE} {σ : L2.St} {H : Hp} {Q : Bool → Hp → Prop} (h : t σ H fun x H' => ∃ k, x = .bl k ∧ Q k H') : tTest t σ H Q := h
theorem by_op {r : R2} {ta tb : TE} {σ : L2.St} {H : Hp} {Q : VK} (h : ta σ H fun x H1 => tb σ H1 fun y H2 => r x y H2 Q) : tOp r ta tb σ H Q := h
/-! ### numbers, names -/
def lawNum (z : Str) (least : Int) : Bool := decide (0 < z.length) && (decide (z.length < 61) && (digB z && (!hd0 z || (decide (z = ("0" : Str)) && decide (least = 0)))))
abbrev spLawNumber : Sp := Pr (fun q : Str × Int => [.str q.1, .int q.2]) (fun q H => q.1.length ≤ 90000 ∧ sok q.1) (fun q H r H' => r = .bl (lawNum q.1 q.2) ∧ Same H H')
abbrev spLawName : Sp := Pr (fun q : Str => [.str q]) (fun q H => q.length ≤ 90000 ∧ sok q) (fun q H r H' => r = .bl (nameB q) ∧ Same H H')
theorem first_sign {z : Str} (h : 1 ≤ z.length) : ∃ c r, tl z = c :: r ∧ hd0 z = decide (c = 48) := by
  cases e : tl z with
  | nil =>
    have := len_tl z
    rw [e] at this
    simp at this
    omega
  | cons c r =>
    refine ⟨c, r, rfl, ?_⟩
    unfold hd0
    rw [e]
    show decide (some c = some 48) = _
    simp
theorem sgn_zero (c : Nat) : decide (V.str ⟨#[c]⟩ = V.str ("0" : Str)) = decide (c = 48) := by
  rw [decide_eq_decide]
  constructor
  · intro q
    have q3 : [c] = [48] := congrArg tl (V.str.inj q)
    exact (List.cons.inj q3).1
  · intro q
    rw [q]
    rfl
section
variable {P : Program} {w : World} {K : PySem.W.Frag} {mg : Str → Option Value} {base : Heap}
theorem ok_law_is_number (T : Tx K mg) : OkF P w K mg base CX0 1 "_law_is_number" ["_law_part", "_law_least"] spLawNumber := by
  have sc : FnScope ["_law_part", "_law_least", "_law_sign"] ["_law_part", "_law_least"] (defScope (topS 54)) := ⟨rfl, rfl, rfl, by decide +kernel, rfl, by decide +kernel, by decide +kernel⟩
  refine okF T 38 54 rfl sc (fun _ _ _ _ _ _ us hl => match us, hl with | [_, _], _ => rfl) (fun vs H Q E ⟨_, e, _⟩ => by rw [e] <;> rfl) fun cdv A outer s H vs Q E hr ⟨⟨z, least⟩, e, ⟨hz, hk⟩, hQ⟩ => ?_
  have e : vs = [V.str z, V.int least] := e
  subst e
  have hz0 : z.length ≤ 90000 := hz
  have hk : sok z := hk
  have hz1 : z.length ≤ sizeLine := by rw [sizeLine_eq]; omega
  have fail : ∀ H1, Same H H1 → lawNum z least = false → Q (.bl false) H1 := fun H1 hs h => hQ _ _ ⟨by show V.bl false = V.bl (lawNum z least); rw [h], hs⟩
  refine ⟨_, PSs.nox (pss_cons (ps_if (PW.pt (pw_or (pt_not (pt_chain op_lt op_lt pe_int (pe_callB call_len rfl (T.bl (x := "len")) (by decide +kernel) (pa_cons (pv 0) pa_nil)) pe_int)) (pw_or1 (pt_cmpR (op_neD hr.units) (pe_lc (own := [("_law_sign", 2)]) (g := gName 2) (by rfl) sc.nd (pi_str (pv 0)) (blkOk_by (own := [("_law_sign", 2)]) (N := ["_law_part", "_law_least", "_law_sign"]) (sc := (defScope (topS 54))) (by decide +kernel)) (fun _ _ _ _ _ => (pg_name (i := 2) sc.nd rfl (.inl rfl) (hf := .inr rfl))) (fun _ _ _ _ _ => pts_one (pt_cmpR op_notIn_sign (pv 2) pe_str (by rfl))) (fun _ _ _ _ _ => (pv 2))) (pe_lst pa_nil) (nomark _))))) (pss_one (ps_ret pe_bl)) pss_nil)
 (pss_one (ps_ret (pe_or (pe_cmpR op_ne (pe_ix ix_str (pv 0) pe_int (fun _ _ => rfl)) pe_str (nomark _)) (pe_one (pe_and (pe_cmpR op_eq (pv 0) pe_str (nomark _)) (pe_one (pe_cmpR op_eq (pv 1) pe_int (nomark _))))))))), ?_⟩
  refine ⟨_, rfl, _, _, rfl, ⟨hz1, rfl⟩, _, _, rfl, rfl, _, rfl, ?_⟩
  by_cases h1 : 0 < z.length
  rotate_left
  · exact ite_f (decide_eq_false (by omega)) ⟨_, rfl, iteT (fail H (Same.refl _) (by unfold lawNum; rw [decide_eq_false h1] <;> rfl))⟩
  refine ite_t (decide_eq_true (by omega)) ⟨_, _, rfl, rfl, _, rfl, ?_⟩
  by_cases h2 : z.length < 61
  rotate_left
  · rw [show decide (((z.length : Nat) : Int) < 61) = false from decide_eq_false (by omega)]
    exact iteT (fail H (Same.refl _) (by unfold lawNum; rw [decide_eq_false h2]; simp))
  rw [show decide (((z.length : Nat) : Int) < 61) = true from decide_eq_true (by omega)]
  refine iteF (by_test (by_op ?_))
  refine r_offs (S := "0123456789") hz1 rfl (fun _ => rfl) (fun _ => rfl) (fun _ _ _ h => h) fun H1 D hs hD => ⟨Nat.zero_le _, fun p hp => ⟨.list ((offs z "0123456789").map .str), .list [], dp_list (SqL.of (same_upd hp _ _ hD)), .lst (SqL.of upd_same) .nil, shaped_texts (offs_ok hk), rfl, _, rfl, ?_⟩⟩
  rw [show PyData.eqv (.list ((offs z "0123456789").map .str)) (.list []) = decide (offs z "0123456789" = []) from eqv_texts _ [], offs_nil]
  have hs2 : Same H (upd H1 p (.lst [])) := hs.trans (same_upd hp)
  show if (!digB z) = true then _ else _
  cases hd : digB z with
  | false => exact iteT (fail _ hs2 (by unfold lawNum; rw [hd]; simp))
  | true =>
    refine iteF ?_
    obtain ⟨c, r, ec, eh⟩ := first_sign (z := z) (by omega)
    refine ⟨_, rfl, z, 0, c, rfl, rfl, hz1, ?_, rfl, _, rfl, ?_⟩
    · show atI (tl z) 0 = some c
      rw [ec]
      exact atI_nat (j := 0) rfl
    rw [sgn_zero, ← eh]
    have good : lawNum z least = (!hd0 z || (decide (z = ("0" : Str)) && decide (least = 0))) := by
      unfold lawNum
      rw [decide_eq_true h1, decide_eq_true h2, hd]
      rfl
    have hQ2 : Q (.bl (!hd0 z || (decide (z = ("0" : Str)) && decide (least = 0)))) (upd H1 p (.lst [])) := hQ _ _ ⟨by rw [← good], hs2⟩
    cases hh : hd0 z with
    | false =>
      rw [hh] at hQ2
      exact iteT hQ2
    | true =>
      rw [hh] at hQ2
      refine iteF ⟨_, rfl, rfl, _, rfl, ?_⟩
      have e0 : decide (V.str z = V.str ("0" : Str)) = decide (z = ("0" : Str)) := decide_eq_decide.mpr ⟨V.str.inj, fun q => by rw [q]⟩
      rw [e0]
      cases h0 : decide (z = ("0" : Str)) with
      | false =>
        rw [h0] at hQ2
        exact iteF hQ2
      | true =>
        rw [h0] at hQ2
        refine iteT ⟨_, rfl, rfl, ?_⟩
        have e1 : decide (V.int least = V.int 0) = decide (least = 0) := decide_eq_decide.mpr ⟨V.int.inj, fun q => by rw [q]⟩
        rw [e1]
        exact hQ2
theorem ok_law_is_name (T : Tx K mg) : OkF P w K mg base CX0 1 "_law_is_name" ["_law_part"] spLawName := by
  have sc : FnScope ["_law_part", "_law_letters", "_law_sign"] ["_law_part"] (defScope (topS 55)) := ⟨rfl, rfl, rfl, by decide +kernel, rfl, by decide +kernel, by decide +kernel⟩
  refine okF T 39 55 rfl sc (fun _ _ _ _ _ _ us hl => match us, hl with | [_], _ => rfl) (fun vs H Q E ⟨_, e, _⟩ => by rw [e] <;> rfl) fun cdv A outer s H vs Q E hr ⟨z, e, ⟨hz, hk⟩, hQ⟩ => ?_
  subst e
  have hz0 : z.length ≤ 90000 := hz
  have hz1 : z.length ≤ sizeLine := by rw [sizeLine_eq]; omega
  have fail : nameB z = false → Q (.bl false) H := fun h => hQ _ _ ⟨by rw [h], Same.refl _⟩
  refine ⟨_, PSs.nox (pss_cons (ps_set (i := 1) sc.nd rfl (Or.inr rfl) pe_str)
 (pss_one (ps_ret (pe_and (pe_chain op_lt op_lt pe_int (pe_callB call_len rfl (T.bl (x := "len")) (by decide +kernel) (pa_cons (pv 0) pa_nil)) pe_int) (pe_one (pe_cmpR (op_eqD hr.units) (pe_lc (own := [("_law_sign", 2)]) (g := gName 2) (by rfl) sc.nd (pi_str (pv 0)) (blkOk_by (own := [("_law_sign", 2)]) (N := ["_law_part", "_law_letters", "_law_sign"]) (sc := (defScope (topS 55))) (by decide +kernel)) (fun _ _ _ _ _ => (pg_name (i := 2) sc.nd rfl (.inl rfl) (hf := .inr rfl))) (fun _ _ _ _ _ => pts_one (pt_cmpR op_notIn_sign (pv 2) (pv 1) (by rfl))) (fun _ _ _ _ _ => (pv 2))) (pe_lst pa_nil) (nomark _))))))), ?_⟩
  refine ⟨_, rfl, _, _, rfl, ⟨hz1, rfl⟩, _, _, rfl, rfl, _, rfl, ?_⟩
  by_cases h1 : 0 < z.length
  rotate_left
  · exact ite_f (decide_eq_false (by omega)) ⟨_, rfl, iteF (fail (by unfold nameB; rw [decide_eq_false (by omega)] <;> rfl))⟩
  refine ite_t (decide_eq_true (by omega)) ⟨_, _, rfl, rfl, _, rfl, ?_⟩
  by_cases h2 : z.length < 9
  rotate_left
  · rw [show decide (((z.length : Nat) : Int) < 9) = false from decide_eq_false (by omega)]
    exact iteF (fail (by unfold nameB; rw [decide_eq_false (show ¬ z.length ≤ 8 by omega)]; simp))
  rw [show decide (((z.length : Nat) : Int) < 9) = true from decide_eq_true (by omega)]
  refine iteT (by_op ?_)
  refine r_offs (S := "abcdefghijklmnopqrstuvwxyz") hz1 rfl (fun _ => rfl) (fun _ => rfl) (fun _ _ _ h => ⟨_, rfl, h⟩) fun H1 D hs hD => ⟨Nat.zero_le _, fun p hp => ⟨.list ((offs z "abcdefghijklmnopqrstuvwxyz").map .str), .list [], dp_list (SqL.of (same_upd hp _ _ hD)), .lst (SqL.of upd_same) .nil, shaped_texts (offs_ok hk), rfl, ?_⟩⟩
  rw [show PyData.eqv (.list ((offs z "abcdefghijklmnopqrstuvwxyz").map .str)) (.list []) = decide (offs z "abcdefghijklmnopqrstuvwxyz" = []) from eqv_texts _ [], offs_nil]
  refine hQ _ _ ⟨?_, hs.trans (same_upd hp)⟩
  unfold nameB
  rw [decide_eq_true (show 1 ≤ z.length by omega), decide_eq_true (show z.length ≤ 8 by omega)]
  rfl
end
end Fl

-- KM3
/-! the law's sorts and the program's: the same texts -/
namespace Fl
open PySem PySem.Spec PyProof.Rows L2 TL
theorem numO_some {z : Str} : (numO z).isSome = numB z := by
  unfold numO
  cases h : numB z <;> simp
theorem lawNum0 (z : Str) : lawNum z 0 = cNum z := by
  unfold cNum
  rw [numO_some]
  unfold lawNum numB
  have e1 : decide (0 < z.length) = decide (1 ≤ z.length) := decide_eq_decide.mpr (by omega)
  have e2 : decide (z.length < 61) = decide (z.length ≤ 60) := decide_eq_decide.mpr (by omega)
  rw [e1, e2]
  cases decide (z = ("0" : Str)) <;> cases hd0 z <;> simp
theorem fold_pos : ∀ (l : List Nat) (a : Nat), 1 ≤ a → 1 ≤ l.foldl (fun acc c => acc * 10 + (c - 48)) a
  | [], a, h => h
  | c :: r, a, h => fold_pos r (a * 10 + (c - 48)) (by omega)
theorem val_pos {z : Str} (h : numB z = true) (h0 : z ≠ ("0" : Str)) : 1 ≤ valN z := by
  unfold numB at h
  simp only [Bool.and_eq_true, decide_eq_true_eq] at h
  obtain ⟨h1, h2, h3, h4⟩ := h
  rw [decide_eq_false h0, Bool.false_or, Bool.not_eq_true'] at h4
  obtain ⟨c, r, ec, eh⟩ := first_sign h1
  rw [eh, decide_eq_false_iff_not] at h4
  have hc : c ∈ digL := of_decide_eq_true (List.all_eq_true.mp h3 c (by rw [ec]; exact List.mem_cons_self))
  have hc2 := digL_iff.mp hc
  unfold valN NumText.digitsVal
  rw [ec, List.foldl_cons]
  have := fold_pos r (0 * 10 + (c - 48)) (by omega)
  omega
theorem cFee_eq (z : Str) : cFee z = cntB (numO z) := by
  unfold cFee cntO
  cases h : cntB (numO z) with
  | false => rfl
  | true =>
    rw [if_pos rfl]
    cases e : numO z with
    | none =>
      rw [e] at h
      cases h
    | some i => rfl
theorem cnt_same (z : Str) : cntB (cntO z) = cFee z := by
  rw [← cntO_some] <;> rfl
theorem lawNum1 (z : Str) : lawNum z 1 = cFee z := by
  rw [cFee_eq]
  have e1 : decide (0 < z.length) = decide (1 ≤ z.length) := decide_eq_decide.mpr (by omega)
  have e2 : decide (z.length < 61) = decide (z.length ≤ 60) := decide_eq_decide.mpr (by omega)
  by_cases hn : numB z = true
  · have hO : numO z = some (valN z) := by unfold numO; rw [if_pos hn]
    rw [hO]
    show _ = decide (1 ≤ valN z)
    by_cases h0 : z = ("0" : Str)
    · subst h0
      decide +kernel
    · rw [decide_eq_true (val_pos hn h0)]
      unfold numB at hn
      unfold lawNum
      rw [e1, e2]
      rw [decide_eq_false h0] at hn ⊢
      simp only [Bool.false_or, Bool.false_and, Bool.or_false] at hn ⊢
      exact hn
  · have hO : numO z = none := by unfold numO; rw [if_neg hn]
    rw [hO]
    show _ = false
    have hf := Bool.eq_false_iff.mpr hn
    cases h : lawNum z 1 with
    | false => rfl
    | true =>
      unfold lawNum at h
      unfold numB at hf
      rw [e1, e2] at h
      simp only [Bool.and_eq_true] at h
      obtain ⟨a1, a2, a3, a4⟩ := h
      rw [a1, a2, a3] at hf
      have d1 : decide ((1 : Int) = 0) = false := by decide
      rw [d1, Bool.and_false, Bool.or_false] at a4
      rw [a4] at hf
      simp at hf
/-! ### lists of texts in order -/
abbrev tlt (a b : Str) : Prop := tl a < tl b
theorem tlt_trans {a b c : Str} (h : tlt a b) (k : tlt b c) : tlt a c := List.lt_trans h k
theorem tlt_irr (a : Str) : ¬ tlt a a := List.lt_irrefl _
theorem tlt_tri {a b : Str} (h : ¬ tlt a b) (k : ¬ tlt b a) : a = b := ext_tl (List.le_antisymm (List.not_lt.mp k) (List.not_lt.mp h))
theorem ris_pair : ∀ ss : List Str, risB ss = true ↔ ss.Pairwise tlt
  | [] => by simp [risB]
  | [x] => by simp [risB]
  | x :: y :: r => by
    have ih := ris_pair (y :: r)
    have e : risB (x :: y :: r) = (decide (tlt x y) && risB (y :: r)) := by
      unfold risB
      simp only [List.tail_cons, List.zip_cons_cons, List.all_cons]
    rw [e, Bool.and_eq_true, decide_eq_true_eq, ih]
    constructor
    · rintro ⟨h, k⟩
      refine List.pairwise_cons.mpr ⟨fun z hz => ?_, k⟩
      rcases List.mem_cons.mp hz with rfl | hz
      · exact h
      · exact tlt_trans h ((List.pairwise_cons.mp k).1 z hz)
    · intro q
      obtain ⟨h, k⟩ := List.pairwise_cons.mp q
      exact ⟨h y List.mem_cons_self, k⟩
theorem sorted_pair : ∀ (x : Str) (r : List Str), risingS x r = true → (x :: r).Nodup → (x :: r).Pairwise tlt
  | x, [], _, _ => by simp
  | x, y :: r, h, nd => by
    have h2 : (!ltCps y.cps.toList x.cps.toList && risingS y r) = true := h
    rw [Bool.and_eq_true, Bool.not_eq_true', PyProof.Rows.ltCps_eq, decide_eq_false_iff_not] at h2
    obtain ⟨nx, nd2⟩ := List.nodup_cons.mp nd
    have ih := sorted_pair y r h2.2 nd2
    have hxy : tlt x y := Decidable.byContradiction fun q => nx (by rw [tlt_tri q h2.1]; exact List.mem_cons_self)
    refine List.pairwise_cons.mpr ⟨fun z hz => ?_, ih⟩
    rcases List.mem_cons.mp hz with rfl | hz
    · exact hxy
    · exact tlt_trans hxy ((List.pairwise_cons.mp ih).1 z hz)
theorem pair_same : ∀ {a b : List Str}, a.Pairwise tlt → b.Pairwise tlt → (∀ x, x ∈ a ↔ x ∈ b) → a = b
  | [], [], _, _, _ => rfl
  | [], y :: b, _, _, h => absurd ((h y).mpr List.mem_cons_self) (by simp)
  | x :: a, [], _, _, h => absurd ((h x).mp List.mem_cons_self) (by simp)
  | x :: a, y :: b, ha, hb, h => by
    obtain ⟨a1, a2⟩ := List.pairwise_cons.mp ha
    obtain ⟨b1, b2⟩ := List.pairwise_cons.mp hb
    have exy : x = y := by
      rcases List.mem_cons.mp ((h x).mp List.mem_cons_self) with e | e
      · exact e
      · rcases List.mem_cons.mp ((h y).mpr List.mem_cons_self) with e2 | e2
        · exact e2.symm
        · exact absurd (tlt_trans (a1 y e2) (b1 x e)) (tlt_irr _)
    subst exy
    rw [pair_same a2 b2 fun z => ?_]
    constructor
    · intro hz
      rcases List.mem_cons.mp ((h z).mp (List.mem_cons_of_mem _ hz)) with e | e
      · subst e
        exact absurd (a1 z hz) (tlt_irr _)
      · exact e
    · intro hz
      rcases List.mem_cons.mp ((h z).mpr (List.mem_cons_of_mem _ hz)) with e | e
      · subst e
        exact absurd (b1 z hz) (tlt_irr _)
      · exact e
theorem sorted_is {ss ys : List Str} (h : sortedS ys = true) (nd : ys.Nodup) (m : ∀ x, x ∈ ys ↔ x ∈ ss) : decide (ss = ys) = risB ss := by
  have py : ys.Pairwise tlt := by
    cases ys with
    | nil => exact List.Pairwise.nil
    | cons y r => exact sorted_pair y r h nd
  rw [Bool.eq_iff_iff, decide_eq_true_eq, ris_pair]
  exact ⟨fun e => e ▸ py, fun p => pair_same p py fun x => (m x).symm⟩
/-! ### a sort by its name -/
def canS (s : Str) : Can := if s = ("name" : Str) then nameB else if s = ("number" : Str) then cNum else if s = ("fee" : Str) then cFee else if s = ("guard" : Str) then cGuard else if s = ("has" : Str) then cHas else if s = ("numbers" : Str) then nmsB else tblB
theorem nms_all (z : Str) : nmsB z = (prts z).all fun x => lawNum x 1 := by
  unfold nmsB
  congr 1
  funext x
  rw [cnt_same, lawNum1]
theorem filt_nil {α : Type} [DecidableEq α] (p : α → Bool) (l : List α) : decide (l.filter (fun x => !p x) = []) = l.all p := by
  rw [Bool.eq_iff_iff, decide_eq_true_eq, List.filter_eq_nil_iff, List.all_eq_true]
  constructor
  · intro h x hx
    have := h x hx
    simpa using this
  · intro h x hx
    have := h x hx
    simp [this]
end Fl

-- KL2
/-! the law's own reading of words: any sort -/
namespace Fl
open PySem PySem.Spec PyProof.Rows L2 TL RZ
def sortL : List Str := ["name", "number", "fee", "guard", "has", "numbers", "table"]
abbrev spLawCan : Sp := Pr (fun q : Str × Str => [.str q.1, .str q.2]) (fun q H => q.1 ∈ sortL ∧ q.2.length ≤ 90000 ∧ sok q.2 ∧ (q.1 = ("table" : Str) → (prts q.2).length < 64)) (fun q H r H' => r = .bl (canS q.1 q.2) ∧ Same H H')
theorem dec_str (a b : Str) : decide (V.str a = V.str b) = decide (a = b) := decide_eq_decide.mpr ⟨V.str.inj, fun q => by rw [q]⟩
section
variable {P : Program} {w : World} {K : PySem.W.Frag} {mg : Str → Option Value} {base : Heap}
/-- the parts that a test does not take, made into a list: empty or not -/
theorem r_bads {σ : L2.St} {H : Hp} {Q : VK} {ti : TE} {tt : TT} {i : Nat} {ss : List Str} {p : Str → Bool} (hz : ss.length ≤ 100000) (h1 : ∀ Q', (∀ a, SqL K H a (vS ss) → Q' (.ref a) H) → ti σ H Q') (hw : ∀ x : V, wipe ((wipe σ [i]).set i (some x)) [i] = wipe σ [i]) (hi : ∀ x : V, ((wipe σ [i]).set i (some x))[i]? = some (some x))
    (ht : ∀ (x : Str) (H' : Hp) (Q' : Bool → Hp → Prop), x ∈ ss → (∀ H2, Same H' H2 → Q' (!p x) H2) → tt ((wipe σ [i]).set i (some (.str x))) H' Q') (h : ∀ H' D, Same H H' → H' D = some (.lst (vS (ss.filter fun x => !p x))) → Q (.ref D) H') :
    tLc (iList K ti) (gName i) tt (tVar i) [i] σ H Q := by
  refine h1 _ fun a ha => ⟨a, rfl, ⟨_, ha⟩, fun D hD => ?_⟩
  refine lcw (walk_list (xs := vS ss)) fram_same hD (by rw [List.length_map, sizeLine_eq]; omega) (fun H' r => r.seq ha) (fun k acc _ => acc = vS ((ss.take k).filter fun x => !p x)) (fun _ _ _ _ _ h => h) (by simp) (fun k x acc H' H2 hk r y hI hacc => ?_) (fun H' acc r hacc hI => ?_)
  · obtain ⟨rfl, hx⟩ := y
    intro Zk Zs hkp hsk
    have hx2 : ss[k]?.map V.str = some x := by simpa using hx
    obtain ⟨x2, ex, rfl⟩ := Option.map_eq_some_iff.mp hx2
    refine ⟨hw _, ht x2 H2 _ (List.mem_of_getElem? ex) fun H3 r3 => ?_⟩
    cases hp : p x2 with
    | true =>
      refine ite_f rfl (hsk _ r3 ?_)
      rw [hI, List.take_succ, ex, List.filter_append]
      simp only [Option.toList, List.filter_cons, List.filter_nil, hp, Bool.not_true, Bool.false_eq_true, if_false, List.append_nil]
    | false =>
      refine ite_t rfl ⟨_, hi _, hkp _ _ r3 ?_⟩
      rw [hI, List.take_succ, ex, List.filter_append]
      simp only [Option.toList, List.filter_cons, List.filter_nil, hp, Bool.not_false, if_true, List.map_append, List.map_cons, List.map_nil]
  · rw [List.length_map, List.take_length] at hI
    exact h H' D r (by rw [hacc, hI])
theorem ok_law_can (T : Tx K mg) : OkF P w K mg base CX0 2 "_law_can" ["_law_sort", "_law_part"] spLawCan := by
  have sc : FnScope ["_law_sort", "_law_part", "_law_some", "_law_one"] ["_law_sort", "_law_part"] (defScope (topS 56)) := ⟨rfl, rfl, rfl, by decide +kernel, rfl, by decide +kernel, by decide +kernel⟩
  refine okF T 40 56 rfl sc (fun _ _ _ _ _ _ us hl => match us, hl with | [_, _], _ => rfl) (fun vs H Q E ⟨_, e, _⟩ => by rw [e] <;> rfl) fun cdv A outer s H vs Q E hr ⟨⟨so, z⟩, e, ⟨hso, hz, hk, h64⟩, hQ⟩ => ?_
  have e : vs = [V.str so, V.str z] := e
  subst e
  have hz : z.length ≤ 90000 := hz
  have hk : sok z := hk
  have h64 : so = ("table" : Str) → (prts z).length < 64 := h64
  have hQ : ∀ b H', b = canS so z → Same H H' → Q (.bl b) H' := fun b H' e hs => hQ _ _ ⟨by rw [e], hs⟩
  have hso : so ∈ sortL := hso
  refine ⟨_, PSs.nox (pss_cons (ps_if (pt_cmpR op_eq (pv 0) pe_str (nomark _)) (pss_one (ps_ret (pe_fn (ok_law_is_name T) (hr.mono (by decide)) pass0 (pa_cons (pv 1) pa_nil)))) pss_nil)
 (pss_cons (ps_if (pt_cmpR op_in_seq (pv 0) (pe_tup (pa_cons pe_str (pa_cons pe_str pa_nil))) (by rfl)) (pss_one (ps_ret (pe_fn (ok_law_is_number T) (hr.mono (by decide)) pass0 (pa_cons (pv 1) (pa_cons (pe_callTy call_int1 rfl (T.bl (x := "int")) (by decide +kernel) (pa_cons (pe_cmpR op_eq (pv 0) pe_str (nomark _)) pa_nil)) pa_nil))))) pss_nil)
 (pss_cons (ps_if (pt_cmpR op_in_seq (pv 0) (pe_tup (pa_cons pe_str (pa_cons pe_str pa_nil))) (by rfl)) (pss_one (ps_ret (pe_cmpR op_in_seq (pv 1) (pe_ifExp (pt_cmpR op_eq (pv 0) pe_str (nomark _)) (pe_tup (pa_cons pe_str (pa_cons pe_str pa_nil))) (pe_tup (pa_cons pe_str (pa_cons pe_str pa_nil)))) (by rfl)))) pss_nil)
 (pss_cons (ps_set (i := 2) sc.nd rfl (Or.inl rfl) (pe_split (pv 1) pe_str))
 (pss_cons (ps_if (pt_cmpR op_eq (pv 0) pe_str (nomark _)) (pss_one (ps_ret (pe_cmpR (op_eqD hr.units) (pe_lc (own := [("_law_one", 3)]) (g := gName 3) (by rfl) sc.nd (pi_list (pv 2)) (blkOk_by (own := [("_law_one", 3)]) (N := ["_law_sort", "_law_part", "_law_some", "_law_one"]) (sc := (defScope (topS 56))) (by decide +kernel)) (fun _ _ _ _ _ => (pg_name (i := 3) sc.nd rfl (.inl rfl) (hf := .inr rfl))) (fun _ _ _ _ _ => pts_one (pt_not (pt_val (pe_fn (ok_law_is_number T) (hr.mono (by decide)) pass0 (pa_cons (pv 3) (pa_cons pe_int pa_nil)))))) (fun _ _ _ _ _ => (pv 3))) (pe_lst pa_nil) (nomark _)))) pss_nil)
 (pss_one (ps_ret (pe_or (pe_cmpR op_eq (pv 1) pe_str (nomark _)) (pe_one (pe_and (pe_cmpR (op_eqD hr.units) (pe_lc (own := [("_law_one", 3)]) (g := gName 3) (by rfl) sc.nd (pi_list (pv 2)) (blkOk_by (own := [("_law_one", 3)]) (N := ["_law_sort", "_law_part", "_law_some", "_law_one"]) (sc := (defScope (topS 56))) (by decide +kernel)) (fun _ _ _ _ _ => (pg_name (i := 3) sc.nd rfl (.inl rfl) (hf := .inr rfl))) (fun _ _ _ _ _ => pts_one (pt_not (pt_val (pe_fn (ok_law_is_name T) (hr.mono (by decide)) pass0 (pa_cons (pv 3) pa_nil))))) (fun _ _ _ _ _ => (pv 3))) (pe_lst pa_nil) (nomark _)) (pe_one (pe_cmpR (op_eqD hr.units) (pv 2) (pe_callB (call_sortSet rfl) rfl (T.bl (x := "sorted")) (by decide +kernel) (pa_cons (pe_callTy (call_setL rfl) rfl (T.bl (x := "set")) (by decide +kernel) (pa_cons (pv 2) pa_nil)) pa_nil)) (nomark _))))))))))))), ?_⟩
  have hpl := prts_len z
  have hS : 200000 ≤ sizeLine := by rw [sizeLine_eq]; decide
  have mem2 : ∀ a b : Str, (if false = true then !inV (.str so) [V.str a, V.str b] else inV (.str so) [V.str a, V.str b]) = decide (so = a ∨ so = b) := fun a b => by
    rw [if_neg Bool.false_ne_true, show [V.str a, V.str b] = vS [a, b] from rfl, inV_vS]
    exact decide_eq_decide.mpr (by simp)
  -- name
  refine ⟨_, rfl, rfl, _, rfl, ?_⟩
  rw [dec_str]
  by_cases c1 : so = ("name" : Str)
  · refine ite_t (decide_eq_true c1) ⟨_, rfl, z, rfl, ⟨hz, hk⟩, fun r H1 q => ?_⟩
    rw [q.1]
    exact hQ _ _ (by unfold canS; rw [if_pos c1]) q.2
  refine ite_f (decide_eq_false c1) ?_
  -- number, fee
  refine ⟨_, rfl, by show 2 ≤ _; omega, fun p hp => ⟨p, _, rfl, .inr (SqT.of upd_same), rfl, rfl, _, rfl, ?_⟩⟩
  by_cases c2 : so = ("number" : Str) ∨ so = ("fee" : Str)
  · refine ite_t ((mem2 _ _).trans (decide_eq_true c2)) ?_
    refine ⟨_, rfl, _, rfl, rfl, .inr ⟨_, rfl, (z, if so = ("fee" : Str) then 1 else 0), ?_, ⟨hz, hk⟩, fun r H1 q => ?_⟩⟩
    · rw [dec_str]
      by_cases c3 : so = ("fee" : Str)
      · rw [decide_eq_true c3, if_pos c3] <;> rfl
      · rw [decide_eq_false c3, if_neg c3] <;> rfl
    · rw [q.1]
      refine hQ _ _ ?_ ((same_upd hp).trans q.2)
      by_cases c3 : so = ("fee" : Str)
      · show lawNum z (if so = ("fee" : Str) then 1 else 0) = _
        rw [if_pos c3, lawNum1]
        unfold canS
        rw [if_neg c1, if_neg (by rw [c3]; decide +kernel), if_pos c3]
      · show lawNum z (if so = ("fee" : Str) then 1 else 0) = _
        rw [if_neg c3, lawNum0]
        unfold canS
        rw [if_neg c1, if_pos (c2.resolve_right c3)]
  refine ite_f ((mem2 _ _).trans (decide_eq_false c2)) ?_
  have c21 : so ≠ ("number" : Str) := fun q => c2 (.inl q)
  have c22 : so ≠ ("fee" : Str) := fun q => c2 (.inr q)
  have s1 : Same H (upd H p (.tup [V.str ("number" : Str), V.str ("fee" : Str)])) := same_upd hp
  -- guard, has
  refine ⟨_, rfl, by show 2 ≤ _; omega, fun p2 hp2 => ⟨p2, _, rfl, .inr (SqT.of upd_same), rfl, rfl, _, rfl, ?_⟩⟩
  have s2 := s1.trans (same_upd (o := .tup [V.str ("guard" : Str), V.str ("has" : Str)]) hp2)
  by_cases c3 : so = ("guard" : Str) ∨ so = ("has" : Str)
  · refine ite_t ((mem2 _ _).trans (decide_eq_true c3)) ?_
    refine ⟨_, rfl, _, rfl, rfl, _, rfl, ?_⟩
    rw [dec_str]
    have mem3 : ∀ (H1 : Hp) (p : Addr) (a b : Str), H1 p = some (.tup [V.str a, V.str b]) → Same H H1 → canS so z = decide (z ∈ ([a, b] : List Str)) → rIn K false (.str z) (.ref p) H1 Q := fun H1 p a b h1 h2 h3 => ⟨p, _, rfl, .inr (SqT.of h1), rfl, rfl, by
      rw [if_neg Bool.false_ne_true, show [V.str a, V.str b] = vS [a, b] from rfl, inV_vS]
      exact hQ _ _ h3.symm h2⟩
    by_cases c4 : so = ("guard" : Str)
    · refine ite_t (decide_eq_true c4) ⟨by show 2 ≤ _; omega, fun p3 hp3 => mem3 _ p3 "on" "off" upd_same (s2.trans (same_upd hp3)) ?_⟩
      unfold canS
      rw [if_neg c1, if_neg c21, if_neg c22, if_pos c4] <;> rfl
    · refine ite_f (decide_eq_false c4) ⟨by show 2 ≤ _; omega, fun p3 hp3 => mem3 _ p3 "has" "not" upd_same (s2.trans (same_upd hp3)) ?_⟩
      unfold canS
      rw [if_neg c1, if_neg c21, if_neg c22, if_neg c4, if_pos (c3.resolve_left c4)] <;> rfl
  refine ite_f ((mem2 _ _).trans (decide_eq_false c3)) ?_
  have c31 : so ≠ ("guard" : Str) := fun q => c3 (.inl q)
  have c32 : so ≠ ("has" : Str) := fun q => c3 (.inr q)
  -- the parts
  refine ⟨_, rfl, ⟨_, rfl⟩, _, _, rfl, rfl, one_len, by omega, fun l hl => ?_⟩
  have s3 := s2.trans (same_upd (o := .lst ((Txt.split z comS).map V.str)) hl)
  have hpr : ∀ x ∈ prts z, x.length ≤ 90000 ∧ sok x := fun x hx => ⟨by have := prts_mem_len hx; omega, sok_prts hk hx⟩
  refine ⟨_, rfl, rfl, _, rfl, ?_⟩
  rw [dec_str]
  by_cases c5 : so = ("numbers" : Str)
  · refine ite_t (decide_eq_true c5) (by_op ?_)
    refine r_bads (K := K) (ss := prts z) (p := fun x => lawNum x 1) (by omega) (fun Q' h => ⟨_, rfl, h l (SqL.of upd_same)⟩) (fun _ => rfl) (fun _ => rfl) (fun x H' Q' hx h => ⟨_, rfl, (x, 1), rfl, hpr x hx, fun r H2 q => by rw [q.1]; exact ⟨_, rfl, h H2 q.2⟩⟩) fun H4 D s4 hD => ?_
    refine ⟨Nat.zero_le _, fun p4 hp4 => ⟨_, .list [], dp_list (SqL.of (same_upd hp4 _ _ hD)), .lst (SqL.of upd_same) .nil, shaped_texts (fun x hx => (hpr x (List.mem_filter.mp hx).1).2), rfl, ?_⟩⟩
    rw [show PyData.eqv (.list (((prts z).filter fun x => !lawNum x 1).map .str)) (.list []) = decide ((prts z).filter (fun x => !lawNum x 1) = []) from eqv_texts _ [], filt_nil]
    refine hQ _ _ ?_ ((s3.trans s4).trans (same_upd hp4))
    rw [← nms_all]
    unfold canS
    rw [if_neg c1, if_neg c21, if_neg c22, if_neg c31, if_neg c32, if_pos c5]
  refine ite_f (decide_eq_false c5) ?_
  have ht : so = ("table" : Str) := by
    have h := hso
    simp only [sortL, List.mem_cons, List.not_mem_nil, or_false] at h
    exact (((((h.resolve_left c1).resolve_left c21).resolve_left c22).resolve_left c31).resolve_left c32).resolve_left c5
  have hcan : canS so z = tblB z := by
    unfold canS
    rw [if_neg c1, if_neg c21, if_neg c22, if_neg c31, if_neg c32, if_neg c5]
  rw [hcan] at hQ
  refine ⟨_, rfl, rfl, _, rfl, ?_⟩
  rw [dec_str]
  by_cases c6 : z = ("-" : Str)
  · refine ite_t (decide_eq_true c6) (hQ _ _ ?_ s3)
    unfold tblB tblP
    rw [if_pos c6]
    decide +kernel
  refine ite_f (decide_eq_false c6) (by_op ?_)
  have htb : tblB z = ((prts z).all nameB && risB (prts z)) := by
    unfold tblB tblP
    rw [if_neg c6]
  refine r_bads (K := K) (ss := prts z) (p := nameB) (by omega) (fun Q' h => ⟨_, rfl, h l (SqL.of upd_same)⟩) (fun _ => rfl) (fun _ => rfl) (fun x H' Q' hx h => ⟨_, rfl, x, rfl, hpr x hx, fun r H2 q => by rw [q.1]; exact ⟨_, rfl, h H2 q.2⟩⟩) fun H4 D s4 hD => ?_
  refine ⟨Nat.zero_le _, fun p4 hp4 => ⟨_, .list [], dp_list (SqL.of (same_upd hp4 _ _ hD)), .lst (SqL.of upd_same) .nil, shaped_texts (fun x hx => (hpr x (List.mem_filter.mp hx).1).2), rfl, ?_⟩⟩
  rw [show PyData.eqv (.list (((prts z).filter fun x => !nameB x).map .str)) (.list []) = decide ((prts z).filter (fun x => !nameB x) = []) from eqv_texts _ [], filt_nil]
  have s5 := (s3.trans s4).trans (same_upd (o := .lst []) hp4)
  refine ⟨_, rfl, ?_⟩
  cases hn : (prts z).all nameB with
  | false =>
    refine ite_f rfl (hQ _ _ ?_ s5)
    rw [htb, hn] <;> rfl
  | true =>
    have hl5 : (upd H4 p4 (.lst [])) l = some (.lst (vS (prts z))) := same_upd hp4 _ _ (s4 _ _ upd_same)
    refine ite_t rfl ⟨_, rfl, ?_⟩
    refine r_sortset (K := K) ⟨_, rfl, l, prts z, rfl, SqL.of hl5, h64 ht, fun q ys H6 s6 hq nd mem sd => ?_⟩ (fun h ⟨v, e, q⟩ => ⟨v, e, h _ _ q⟩)
    have sys : ∀ x ∈ ys, sok x := fun x hx => (hpr x ((mem x).mp hx)).2
    refine ⟨_, _, dp_list (SqL.of (s6 _ _ hl5)), dp_list (SqL.of hq), shaped_texts (fun x hx => (hpr x hx).2), shaped_texts sys, ?_⟩
    rw [eqv_texts, sorted_is sd nd mem]
    refine hQ _ _ ?_ (s5.trans s6)
    rw [htb, hn, Bool.true_and]
end
end Fl

-- KE1
/-! enumerate(a tuple) -/
namespace Fl
open PySem
open AutoSeq1 (wpAny_loadPart')
theorem meets_enumT (t : Addr) (items : Array Value) (n : Nat) (dct : Option Addr) (sl : Array (Option Value)) :
    Meets (Builtin.«enumerate.__new__» ⟨[.type "enumerate", .ref t], []⟩) (fun _ R s => s.heap.get? t = some { cls := .type "tuple", dict := dct, data := .seq items n, slots := sl } ∧
      R (.ok (.ret (.ref (s.heap.push { cls := .type "tuple_iterator", data := .fields #[.ref t, .int 0 0] }).objs.size)))
        { s with heap := (s.heap.push { cls := .type "tuple_iterator", data := .fields #[.ref t, .int 0 0] }).push { cls := .type "enumerate", data := .fields #[.none, .bool false, .ref s.heap.objs.size, rawInt 0, .none, .none] } }) :=
  .of_wp fun prog w A R s q => by
    obtain ⟨hp, gs, dr, tk, os⟩ := s
    obtain ⟨ht, q⟩ := q
    have sub := sub_enumerate
    have hT : Heap.IsTuple (Shared.heap ⟨hp, gs, dr, tk, os⟩) t items := ⟨_, ht, rfl, n, rfl⟩
    wp_walk using wpAny_loadPart' ht
    refine wpAny_stack_any fun st => wpAny_pure ?_
    split
    · rename_i c _ _ _ _ _
      cases (c == Value.type "enumerate") <;>
        (wp_walk using wpAny_loadPart' ht, wpAny_pyIter_tuple hT
         exact ⟨_, rfl, q⟩)
    · wp_walk using wpAny_loadPart' ht, wpAny_pyIter_tuple hT
      exact ⟨_, rfl, q⟩
section
variable {prog : Program} {w : World} {A : Around} {E : Value → Shared → Prop} {s : Shared}
theorem call_enumT {t : Addr} {items : Array Value} {Q : Value → Shared → Prop} (hT : s.heap.IsTuple t items)
    (h : ∀ h', IsEnum h' (s.heap.objs.size + 1) s.heap.objs.size 0 .none → h'.IsTupleIter s.heap.objs.size t 0 → (∀ b o, s.heap.get? b = some o → h'.get? b = some o) → Q (.ref (s.heap.objs.size + 1)) { s with heap := h' }) :
    wpAny (model prog w) A (call (.type "enumerate") [.ref t]) Q E s := by
  obtain ⟨⟨c, dct, dt, sl⟩, ht, hc, n, hd⟩ := hT
  simp only at hc hd
  subst hc hd
  refine callType_new F.called_enumerate (by decide) (F.typeCall_enumerate_1 _) (F.newCall_enumerate_1 _) (fun obj => F.args_object_init_2 obj _) F.entry_enumerate_new (meets_enumT t items n dct sl) ⟨ht, ?_⟩
  have size1 : (s.heap.push { cls := .type "tuple_iterator", data := .fields #[.ref t, .int 0 0] }).objs.size = s.heap.objs.size + 1 := Heap.size_push ..
  show _ ∧ _
  rw [size1]
  have en : IsEnum ((s.heap.push { cls := .type "tuple_iterator", data := .fields #[.ref t, .int 0 0] }).push { cls := .type "enumerate", data := .fields #[.none, .bool false, .ref s.heap.objs.size, rawInt 0, .none, .none] }) (s.heap.objs.size + 1) s.heap.objs.size 0 .none := by
    have q := Heap.get?_push_size (s.heap.push { cls := .type "tuple_iterator", data := .fields #[.ref t, .int 0 0] }) (o := { cls := .type "enumerate", data := .fields #[.none, .bool false, .ref s.heap.objs.size, rawInt 0, .none, .none] }) rfl
    rw [size1] at q
    exact q
  exact ⟨⟨_, en, rfl⟩, h _ en ⟨_, Heap.get?_push_of_some _ (Heap.get?_push_size _ rfl), rfl, rfl⟩ fun b o x => Heap.get?_push_of_some _ (Heap.get?_push_of_some _ x)⟩
end
end Fl
namespace Fl
open PySem PySem.Spec PyProof.Rows L2
/-- the tuple at a, its items in new pairs with their places -/
def Itm (K : PySem.W.Frag) (a : Addr) : It :=
  ⟨fun i H => ∃ (xs : List V) (x : V), SqT K H a xs ∧ xs[i]? = some x, fun i H v H' => ∃ T x, v = .ref T ∧ H T = none ∧ H' = upd H T (.tup [.int (i : Nat), x]) ∧ ∀ xs, SqT K H a xs → xs[i]? = some x, fun i H => ∃ xs : List V, SqT K H a xs ∧ xs.length = i⟩
theorem turn_enumT {P : Program} {w : World} {K : PySem.W.Frag} {elts : List Expr} {kk : Nat} {tpos : Pos} (a e it : Addr) :
    Turn P w K (.Tuple elts kk tpos) (Itm K a) [e, it] e (fun i h => (∃ old, IsEnum h e it ((i : Nat) : Int) old) ∧ h.IsTupleIter it a i ∧ e ≠ it) where
  mem := by simp
  obj := fun i h st b hb => by
    obtain ⟨⟨old, en⟩, ⟨oi, gi, _, di⟩, _⟩ := st
    rcases List.mem_cons.mp hb with z | z
    · rw [z]
      exact ⟨_, en, fun v q => nomatch q⟩
    · rw [List.mem_singleton.mp z]
      exact ⟨oi, gi, fun v q => by rw [di] at q; cases q⟩
  keep := fun i h h' st k => by
    obtain ⟨⟨old, en⟩, hi, ne⟩ := st
    exact ⟨⟨old, k e (by simp) _ en⟩, hi.at fun o q => k it (by simp) o q, ne⟩
  item := by
    intro X hP hw hK hc i pins s σ H E I hf st hg
    subst hP hw hK
    obtain ⟨⟨old, en⟩, hit, ne⟩ := st
    obtain ⟨xs, x, hq, hx⟩ := hg
    obtain ⟨its, rv, p, _⟩ := I.tuple hq
    have pT : s.heap.IsTuple a its.toArray := p
    have ei : (e : Addr) < s.heap.objs.size := Heap.lt_size en
    obtain ⟨oi, gi, ci, di⟩ := id hit
    obtain ⟨oa, ga, ca, na, da⟩ := id pT
    have ai : a ≠ it := fun z => by
      rw [z, gi] at ga
      cases ga
      rw [ci] at ca
      exact absurd ca (by decide)
    have ea : e ≠ a := fun z => by
      rw [← z, en] at ga
      cases ga
      exact absurd (show Value.type "enumerate" = Value.type "tuple" from ca) (by decide)
    have lt : i < its.toArray.size := by
      have h1 := (List.getElem?_eq_some_iff.mp hx).1
      have h2 := rv.length
      rw [List.size_toArray, ← h2]
      exact h1
    have D := Draws.tuple (prog := X.prog) (w := X.w) (A := X.A.in1) (show X.A.in1.handled = none from I.ok.hd hc) it a ai its.toArray
    refine wpAny_pyNext_enum_itemD D en ⟨hit, pT⟩ lt ne (fun z => ?_) fun v h1 tk pv out st1 hT size1 kept => ?_
    · rcases List.mem_cons.mp z with z | z
      · exact ne z
      · exact ea (List.mem_singleton.mp z)
    obtain ⟨u, hu, ru⟩ := rv.get hx
    have pv2 : its[i]? = some v := by simpa using pv
    have uv : u = v := Option.some.inj (hu.symm.trans pv2)
    subst uv
    refine ⟨_, rfl, wpAny_letOwnedTupleGo_enum (s := { s with heap := h1, toks := tk + 1 }) out fun h2 en2 sb => ?_⟩
    have hT2 : h2.get? s.heap.objs.size = some { cls := .type "tuple", data := .seq #[.int i tk, u] } := (sb.2 _ (Nat.ne_of_gt ei)).trans hT
    have ob : ObjOk X.prog X.w (upd H s.heap.objs.size (.tup [.int (i : Nat), x])) h2 s.heap.objs.size (.tup [.int (i : Nat), x]) := ⟨by show 2 ≤ sizeLine; decide, [.int i tk, u], .cons ⟨_, rfl⟩ (.cons ru .nil), ⟨_, hT2, rfl, _, rfl⟩⟩
    have I1 : Inv X pins σ (upd H s.heap.objs.size (.tup [.int (i : Nat), x])) { s with heap := h2, toks := tk + 1 } :=
      I.turnedNew (ch := [e, it]) (fun b o nb q => (sb.2 b fun z => nb (by rw [z]; exact List.mem_cons_self)).trans (kept b o (fun z => nb (by rw [z]; exact List.mem_cons_self)) (fun z => nb (by rw [z]; simp)) q)) hf (Nat.le_refl _) ob
    have step : ((i + 1 : Nat) : Int) = (i : Int) + 1 := by omega
    refine ⟨.ref s.heap.objs.size, _, I1, rfl, ⟨_, x, rfl, I.hok.fresh (Nat.le_refl _), rfl, fun ys hy => by rw [I.tuple_inj hy hq]; exact hx⟩, ⟨⟨u, by rw [step]; exact en2⟩, st1.1.at fun o q => (sb.2 it (Ne.symm ne)).trans q, ne⟩, fun b hb => ?_⟩
    have old' : b < s.heap.objs.size := by
      rcases List.mem_cons.mp hb with z | z
      · rw [z]; exact ei
      · rw [List.mem_singleton.mp z]; exact Heap.lt_size gi
    rw [upd_ne (Nat.ne_of_lt old')]
    exact (hf b hb).1
  done := by
    intro X hP hw hK hc i pins s σ H E I hf st hg
    subst hP hw hK
    obtain ⟨⟨old, en⟩, hit, ne⟩ := st
    obtain ⟨xs, hq, hx⟩ := hg
    obtain ⟨its, rv, p, _⟩ := I.tuple hq
    have pT : s.heap.IsTuple a its.toArray := p
    obtain ⟨oi, gi, ci, di⟩ := id hit
    obtain ⟨oa, ga, ca, na, da⟩ := id pT
    have ai : a ≠ it := fun z => by
      rw [z, gi] at ga
      cases ga
      rw [ci] at ca
      exact absurd ca (by decide)
    have n : its.toArray.size = i := by
      rw [List.size_toArray, ← rv.length]
      exact hx
    have D := Draws.tuple (prog := X.prog) (w := X.w) (A := X.A.in1) (show X.A.in1.handled = none from I.ok.hd hc) it a ai its.toArray
    rw [n] at D
    obtain ⟨f0, f1, f2, f3, f4, f5⟩ := hf it (by simp)
    exact wpAny_pyNext_enum_endD D en ⟨hit, pT⟩ fun h' eb => ⟨rfl, I.turned (t' := s.toks) (fun b o nb q => eb b o nb q) f0 f1 f3 f4 f5⟩
  self := fun A i s Q E st h => let ⟨⟨_, en⟩, _⟩ := st; wpAny_pyIter_enum en h
def iEnumT (K : PySem.W.Frag) (ta : TA) : TI := fun σ H R => ta σ H fun vs H1 => ∃ a xs, vs = [.ref a] ∧ SqT K H1 a xs ∧ R (Itm K a) H1
theorem pi_enumT {X : Cx} {e : Expr} {ta : TA} {p pos tpos : Pos} {elts : List Expr} {kk : Nat} (hg : Gl X "enumerate") (hm : X.mg "enumerate" = none) (ha : PA X [e] ta) (hs : starEach [e] X.env = [(false, eval e X.env)] := by rfl) :
    PI X (.Tuple elts kk tpos) (.Call (.Name "enumerate" p) [e] [] pos) (iEnumT X.K ta) := by
  constructor
  intro pins s σ H R I h
  refine Call_ (ld_blt I hg hm boot_enumerate (PyProof.Rows.callWith_type1 (thn (ha.run pos pins s σ H _ I h) fun us s1 z => ?_) hs rfl))
  obtain ⟨vs, H1, I1, r1, a, xs, ex, hq, q⟩ := z
  subst ex
  cases r1 with
  | cons r rr =>
    cases rr
    cases r
    obtain ⟨its, rv, pT, _⟩ := I1.tuple hq
    refine call_enumT (show s1.heap.IsTuple a its.toArray from pT) fun h' en hit kept => wpAny_pyIter_enum en ?_
    have I2 : Inv X pins σ H1 { s1 with heap := h' } := I1.kept (t' := s1.toks) kept
    refine ⟨s1.heap.objs.size + 1, [s1.heap.objs.size + 1, s1.heap.objs.size], _, _, H1, rfl, I2, turn_enumT a (s1.heap.objs.size + 1) s1.heap.objs.size, ⟨⟨.none, en⟩, hit, Nat.succ_ne_self _⟩, fun b hb => ?_, q⟩
    have le : s1.heap.objs.size ≤ b := by
      rcases List.mem_cons.mp hb with z | z
      · rw [z]; exact Nat.le_add_right _ _
      · rw [List.mem_singleton.mp z]; exact Nat.le_refl _
    exact I1.fpOk le (I1.hok.fresh le)
theorem walk_enumT {K : PySem.W.Frag} {a : Addr} {xs : List V} : Walk (Itm K a) xs.length (fun H => SqT K H a xs) (YPair (fun i => some (.int (i : Nat))) (fun i => xs[i]?)) := by
  refine ⟨fun i _ hi q => ⟨xs, xs[i], q, by simp [hi]⟩, fun _ q => ⟨xs, q, rfl⟩, fun i H v H' _ q y => ?_⟩
  obtain ⟨T, x, h1, h2, h3, h4⟩ := y
  exact ⟨T, .int (i : Nat), x, h1, h2, h3, rfl, h4 xs q⟩
end Fl

-- KL3
/-! the law's own reading of a line -/
namespace Fl
open PySem PySem.Spec PyProof.Rows L2 TL RZ
/-! ### data of tuples, taken apart -/
section
variable {K : PySem.W.Frag} {H : Hp}
theorem im_ref {v : V} {ds : List PyData} (h : Im K H v (.tuple ds)) : ∃ b xs, v = .ref b ∧ SqT K H b xs ∧ ImAll K H xs ds := by
  obtain ⟨hd, hn⟩ := h
  cases hd with
  | tup hs ha => exact ⟨_, _, rfl, hs, ha, hn⟩
theorem ims_texts : ∀ {ss : List Str} {xs : List V}, ImAll K H xs (ss.map .str) → xs = vS ss
  | [], xs, h => by
    obtain ⟨hd, _⟩ := h
    cases hd
    rfl
  | x :: r, xs, h => by
    obtain ⟨hd, hn⟩ := h
    cases hd with
    | cons h1 h2 =>
      cases h1
      have n2 : (noL (.str x) && noLs (r.map .str)) = true := hn
      rw [Bool.and_eq_true] at n2
      rw [ims_texts (ss := r) ⟨h2, n2.2⟩]
      rfl
theorem ims_at : ∀ {ds : List PyData} {xs : List V} {i : Nat} {v : V}, ImAll K H xs ds → xs[i]? = some v → ∃ d, ds[i]? = some d ∧ Im K H v d
  | [], xs, i, v, h, e => by
    obtain ⟨hd, _⟩ := h
    cases hd
    cases e
  | d :: ds, xs, i, v, h, e => by
    obtain ⟨hd, hn⟩ := h
    cases hd with
    | cons h1 h2 =>
      have n2 : (noL d && noLs ds) = true := hn
      rw [Bool.and_eq_true] at n2
      cases i with
      | zero =>
        have e2 := Option.some.inj e
        subst e2
        exact ⟨d, rfl, h1, n2.1⟩
      | succ i => exact ims_at (i := i) ⟨h2, n2.2⟩ e
end
def fdD (f : List Str) : PyData := .tuple (f.map .str)
abbrev evForms : List (List Str) := [["came", "name", "number", "name", "number"], ["guard", "guard"], ["note", "name"]]
theorem lay_forms : ∀ fs : List (List Str), (∀ f ∈ fs, ∀ x ∈ f, sok x) → PyData.canLayAll0 (fs.map fdD) = true
  | [], _ => rfl
  | f :: r, h => by
    rw [List.map_cons, PyData.canLayAll0, lay_forms r fun y hy => h y (List.mem_cons_of_mem _ hy)]
    unfold fdD
    rw [PyData.canLay0, lay_texts f (h f List.mem_cons_self)]
    rfl
theorem depth_forms : ∀ fs : List (List Str), PyData.depthAll (fs.map fdD) ≤ 1
  | [] => by simp [PyData.depthAll]
  | f :: r => by
    rw [List.map_cons, PyData.depthAll]
    have h1 := depth_forms r
    have h2 : PyData.depthAll (f.map .str) ≤ 0 := PySem.W.depthAll_map (α := Str) f
    have h3 : PyData.depth (fdD f) ≤ 1 := by
      unfold fdD
      rw [PyData.depth]
      omega
    exact Nat.max_le.mpr ⟨h3, h1⟩
theorem shaped_forms {fs : List (List Str)} (h : ∀ f ∈ fs, ∀ x ∈ f, sok x) : SeqAt.shaped (.list (fs.map fdD)) = true := by
  unfold SeqAt.shaped
  have h1 := depth_forms fs
  rw [PyData.canLay0, lay_forms fs h, PyData.depth, decide_eq_true (by omega)]
  rfl
theorem eqv_nil (ds : List PyData) : PyData.eqv (.list ds) (.list []) = ds.isEmpty := by
  rw [PyData.eqv]
  cases ds <;> simp [PyData.eqvAll]
/-! ### where a line of these forms cannot stand -/
def spotL (fs : List (List Str)) (ws : List Str) : Option Nat := match fs.filter (fun f => decide (f.headD Str.empty = wat ws 0)) with
  | [] => some 0
  | f :: _ => spotF (f.tail.map canS) ws 1
def ovN : Option Nat → V
  | none => .non
  | some s => .int (s : Nat)
structure FmOk (fs : List (List Str)) (z : Str) : Prop where
  few : fs.length ≤ 100
  form : ∀ f ∈ fs, f ≠ [] ∧ f.length ≤ 100 ∧ (∀ x ∈ f, sok x) ∧ ∀ x ∈ f.tail, x ∈ sortL
  len : z.length ≤ 90000
  ok : sok z
  tab : (∃ f ∈ fs, ("table" : Str) ∈ f) → ∀ y ∈ wds z, (prts y).length < 64
abbrev spLawSpot (K : PySem.W.Frag) : Sp := Pr (fun q : Addr × Str × List (List Str) => [.str q.2.1, .ref q.1]) (fun q H => (∃ vs, H q.1 = some (.lst vs) ∧ ImAll K H vs (q.2.2.map fdD)) ∧ FmOk q.2.2 q.2.1) (fun q H r H' => r = ovN (spotL q.2.2 (wds q.2.1)) ∧ Same H H')
abbrev spLawForms (K : PySem.W.Frag) : Sp := Pr (fun _ : Unit => []) (fun _ _ => True) (fun _ H r H' => (∃ a vs, r = .ref a ∧ H' a = some (.lst vs) ∧ ImAll K H' vs (evForms.map fdD)) ∧ Same H H')
theorem spl_ne (S : List Nat) : ∀ (l : List Nat) (k : Nat) (acc : List Nat), spl S k acc l ≠ []
  | [], k, acc => by rw [spl_nil]; simp
  | c :: r, k + 1, acc => by
    rw [spl_pass]
    have := spl_ne S r k acc
    rw [spl_pass] at this
    exact this
  | c :: r, 0, acc => by
    by_cases h : pre S (c :: r) = true
    · rw [spl_hit h]; simp
    · rw [spl_miss (by simpa using h)]; exact spl_ne S r 0 _
theorem wds_ne (z : Str) : wds z ≠ [] := fun h => by
  have e := split_tl z (y := spcS) (s := 32) (S := []) (by decide +kernel) (by decide +kernel)
  have h2 : Txt.split z spcS = [] := h
  rw [h2] at e
  exact spl_ne _ _ _ _ e.symm
theorem can_empty : ∀ so ∈ sortL, canS so Str.empty = false := by decide +kernel
theorem wat_at {ws : List Str} {i : Nat} (h : i < ws.length) : (vS ws)[i]? = some (V.str (wat ws i)) := by
  unfold wat
  rw [List.getElem?_map, List.getD_eq_getElem?_getD, List.getElem?_eq_getElem h] <;> rfl
theorem wat_out {ws : List Str} {i : Nat} (h : ws.length ≤ i) : wat ws i = Str.empty := by
  unfold wat
  rw [List.getD_eq_getElem?_getD, List.getElem?_eq_none_iff.mpr h] <;> rfl
theorem wat_mem {ws : List Str} {i : Nat} (h : i < ws.length) : wat ws i ∈ ws := by
  unfold wat
  rw [List.getD_eq_getElem?_getD, List.getElem?_eq_getElem h]
  exact List.getElem_mem h
section
variable {P : Program} {w : World} {K : PySem.W.Frag} {mg : Str → Option Value} {base : Heap}
theorem ok_law_event_forms (T : Tx K mg) : OkF P w K mg base CX0 1 "_law_event_forms" [] (spLawForms K) := by
  have sc : FnScope [] [] (defScope (topS 58)) := ⟨rfl, rfl, rfl, by decide +kernel, rfl, by decide +kernel, by decide +kernel⟩
  refine okF T 42 58 rfl sc (fun _ _ _ _ _ _ us hl => match us, hl with | [], _ => rfl) (fun vs H Q E ⟨_, e, _⟩ => by rw [e] <;> rfl) fun cdv A outer s H vs Q E hr ⟨_, e, _, hQ⟩ => ?_
  subst e
  have hS : 1000 ≤ sizeLine := by rw [sizeLine_eq]; decide
  refine ⟨_, PSs.nox (pss_one (ps_ret (pe_lst (pa_cons (pe_tup (pa_cons pe_str (pa_cons pe_str (pa_cons pe_str (pa_cons pe_str (pa_cons pe_str pa_nil)))))) (pa_cons (pe_tup (pa_cons pe_str (pa_cons pe_str pa_nil))) (pa_cons (pe_tup (pa_cons pe_str (pa_cons pe_str pa_nil))) pa_nil)))))), ?_⟩
  refine ⟨by show 5 ≤ _; omega, fun p1 h1 => ⟨by show 2 ≤ _; omega, fun p2 h2 => ⟨by show 2 ≤ _; omega, fun p3 h3 => ⟨by show 3 ≤ _; omega, fun l hl => hQ _ _ ⟨⟨l, _, rfl, upd_same, ?_⟩, ((same_upd h1).trans (same_upd h2)).trans ((same_upd h3).trans (same_upd hl))⟩⟩⟩⟩⟩
  have e1 := same_upd (o := .tup (vS ["came", "name", "number", "name", "number"])) h1
  refine ims_mono (tupX_new hl) (ims_cons ?_ (ims_cons ?_ (ims_cons ?_ ims_nil)))
  · exact im_tup (SqT.of (same_upd h3 _ _ (same_upd h2 _ _ upd_same))) (ims_strs ["came", "name", "number", "name", "number"])
  · exact im_tup (SqT.of (same_upd h3 _ _ upd_same)) (ims_strs ["guard", "guard"])
  · exact im_tup (SqT.of upd_same) (ims_strs ["note", "name"])
theorem ok_law_spot (T : Tx K mg) : OkF P w K mg base CX0 3 "_law_spot" ["_law_line_here", "_law_forms"] (spLawSpot K) := by
  have sc : FnScope ["_law_line_here", "_law_forms", "_law_words", "_law_sorts", "_law_form", "_law_k", "_law_sort"] ["_law_line_here", "_law_forms"] (defScope (topS 57)) := ⟨rfl, rfl, rfl, by decide +kernel, rfl, by decide +kernel, by decide +kernel⟩
  refine okF T 41 57 rfl sc (fun _ _ _ _ _ _ us hl => match us, hl with | [_, _], _ => rfl) (fun vs H Q E ⟨_, e, _⟩ => by rw [e] <;> rfl) fun cdv A outer s H vs Q E hr ⟨⟨a, z, fs⟩, e, ⟨⟨fvs, ha, hI⟩, hF⟩, hQ⟩ => ?_
  have e : vs = [V.str z, V.ref a] := e
  subst e
  have ha : H a = some (.lst fvs) := ha
  have hI : ImAll K H fvs (fs.map fdD) := hI
  have hF : FmOk fs z := hF
  have hS : 200000 ≤ sizeLine := by rw [sizeLine_eq]; decide
  have hlen := hF.len
  have hwl := wds_len z
  obtain ⟨ws, hws⟩ : ∃ ws, ws = wds z := ⟨_, rfl⟩
  have hne : ws ≠ [] := by rw [hws]; exact wds_ne z
  have hpos : 0 < ws.length := List.length_pos_iff.mpr hne
  have hQ : ∀ r H', r = ovN (spotL fs ws) → Same H H' → Q r H' := fun r H' a b => hQ r H' ⟨by rw [← hws]; exact a, b⟩
  have hwok : ∀ y ∈ ws, y.length ≤ 90000 ∧ sok y := fun y hy => by
    rw [hws] at hy
    exact ⟨by have := wds_mem_len hy; omega, sok_wds hF.ok hy⟩
  refine ⟨_, PSs.nox (pss_cons (ps_set (i := 2) sc.nd rfl (Or.inr rfl) (pe_split (pv 0) pe_str))
 (pss_cons (ps_setLc (i := 3) (own := [("_law_form", 4)]) (g := gName 4) (by rfl) sc.nd rfl rfl (sw_true rfl rfl rfl (by decide +kernel)) (pi_list (pv 1)) (blkOk_by (own := [("_law_form", 4)]) (N := ["_law_line_here", "_law_forms", "_law_words", "_law_sorts", "_law_form", "_law_k", "_law_sort"]) (sc := (defScope (topS 57))) (by decide +kernel)) (fun _ _ _ _ _ => (pg_name (i := 4) sc.nd rfl (.inl rfl) (hf := .inr rfl))) (fun _ _ _ _ _ => pts_one (pt_cmpR op_eq (pe_ix (ix_tupK (K := K) rfl) (pv 4) pe_int (fun _ _ => rfl)) (pe_ix (ix_listK (K := K) rfl) (pv 2) pe_int (fun _ _ => rfl)) (nomark _))) (fun _ _ _ _ _ => (pe_slice (sl_tupUK (K := K) rfl) (pv 4) (po_some pe_int) po_none)))
 (pss_cons (ps_if (pt_cmpR (op_eqD hr.units) (pv 3) (pe_lst pa_nil) (nomark _)) (pss_one (ps_ret pe_int)) pss_nil)
 (pss_cons (ps_for PassesOwn.never rfl (pi_enumT rfl (T.bl (x := "enumerate")) (pa_cons (pe_ix ix_list (pv 3) pe_int (fun _ _ => rfl)) pa_nil)) (pg_tup rfl (pgs_cons (pg_name (i := 5) sc.nd rfl (.inl rfl) (hf := .inr rfl)) (pgs_cons (pg_name (i := 6) sc.nd rfl (.inl rfl) (hf := .inr rfl)) pgs_nil))) (pss_one (ps_if (PW.pt (pw_or (pt_cmpR op_ge (pe_op op_add (pv 5) pe_int) (pe_callB call_len rfl (T.bl (x := "len")) (by decide +kernel) (pa_cons (pv 2) pa_nil)) (nomark _)) (pw_or1 (pt_not (pt_val (pe_fn (ok_law_can T) (hr.mono (by decide)) pass0 (pa_cons (pv 6) (pa_cons (pe_ix ix_list (pv 2) (pe_op op_add (pv 5) pe_int) (fun _ _ => rfl)) pa_nil)))))))) (pss_one (ps_ret (pe_op op_add (pv 5) pe_int))) pss_nil)))
 (pss_one (ps_ret (pe_ifExp (pt_cmpR op_eq (pe_callB call_len rfl (T.bl (x := "len")) (by decide +kernel) (pa_cons (pv 2) pa_nil)) (pe_op op_add (pe_callB call_len rfl (T.bl (x := "len")) (by decide +kernel) (pa_cons (pe_ix ix_list (pv 3) pe_int (fun _ _ => rfl)) pa_nil)) pe_int) (nomark _)) pe_non (pe_op op_add (pe_callB call_len rfl (T.bl (x := "len")) (by decide +kernel) (pa_cons (pe_ix ix_list (pv 3) pe_int (fun _ _ => rfl)) pa_nil)) pe_int)))))))), ?_⟩
  refine ⟨_, rfl, ⟨_, rfl⟩, _, _, rfl, rfl, spc_len, by omega, fun l hl => ?_⟩
  have s1 : Same H (upd H l (.lst ((Txt.split z spcS).map V.str))) := same_upd hl
  have hl1 : (upd H l (.lst ((Txt.split z spcS).map V.str))) l = some (.lst (vS ws)) := by rw [upd_same, hws] <;> rfl
  dsimp only [gName]
  -- the forms of this first word
  refine ⟨_, rfl, a, rfl, ⟨_, SqL.of (s1 _ _ ha)⟩, fun D hD => ?_⟩
  have flen : fvs.length = fs.length := by have := ims_len hI; rw [List.length_map] at this; exact this
  refine lcw (walk_list (xs := fvs)) fram_same hD (by rw [flen]; have := hF.few; omega) (fun H' r => SqL.of (r _ _ (s1 _ _ ha))) (fun i (acc : List V) (H : Hp) => ImAll K H acc (((fs.take i).filter fun (f : List Str) => decide (f.headD Str.empty = wat ws 0)).map fun (f : List Str) => fdD f.tail)) (fun _ _ _ _ e h => ims_mono e h) ims_nil (fun i x acc H1 H2 hi r y hacI hacc => ?_) (fun H1 acc r hacc hacI => ?_)
  · obtain ⟨rfl, hx⟩ := y
    intro Zk Zs hk hs
    obtain ⟨d, hd, hIm⟩ := ims_at hI hx
    rw [List.getElem?_map] at hd
    obtain ⟨f, ef, rfl⟩ := Option.map_eq_some_iff.mp hd
    have hIm : Im K H x (.tuple (f.map .str)) := hIm
    obtain ⟨b, xs, rfl, hb, hxs⟩ := im_ref hIm
    have hxs := ims_texts hxs
    subst hxs
    obtain ⟨f1, f2, f3, f4⟩ := hF.form f (List.mem_of_getElem? ef)
    obtain ⟨x0, xr, rfl⟩ : ∃ x0 xr, f = x0 :: xr := by
      cases f with
      | nil => exact absurd rfl f1
      | cons x0 xr => exact ⟨x0, xr, rfl⟩
    have hb2 : SqT K H2 b (vS (x0 :: xr)) := sqT_same (s1.trans r) hb
    refine ⟨rfl, _, rfl, b, _, 0, .str x0, rfl, rfl, hb2, atI_nat (j := 0) rfl, _, rfl, l, vS ws, 0, .str (wat ws 0), rfl, rfl, SqL.of (r _ _ hl1), atI_nat (j := 0) (wat_at hpos), rfl, _, rfl, ?_⟩
    rw [dec_str]
    have etk : (fs.take (i + 1)).filter (fun f => decide (f.headD Str.empty = wat ws 0)) = (fs.take i).filter (fun f => decide (f.headD Str.empty = wat ws 0)) ++ if x0 = wat ws 0 then [x0 :: xr] else [] := by
      rw [List.take_succ, ef, List.filter_append]
      congr 1
      by_cases q : x0 = wat ws 0
      · rw [if_pos q]
        simp only [Option.toList, List.filter_cons, List.filter_nil, List.headD_cons]
        exact if_pos (decide_eq_true q)
      · rw [if_neg q]
        simp only [Option.toList, List.filter_cons, List.filter_nil, List.headD_cons]
        exact if_neg (fun q2 => q (of_decide_eq_true q2))
    by_cases hh : x0 = wat ws 0
    · refine ite_t (decide_eq_true hh) ⟨_, rfl, 1, rfl, b, _, rfl, hb2, fun p H3 s3 hp => hk _ _ s3 ?_⟩
      rw [etk, if_pos hh, List.map_append]
      have hcut : cutV (vS (x0 :: xr)) (some 1) none = vS xr := by
        unfold cutV
        rw [show ((1 : Int)) = ((1 : Nat) : Int) from rfl, HT.sIx_nat, HT.sIx_none]
        have hl2 : (vS (x0 :: xr)).length = xr.length + 1 := by simp
        rw [hl2, show min 1 (xr.length + 1) = 1 from by omega]
        show (vS xr).take (xr.length + 1 - 1) = vS xr
        rw [Nat.add_sub_cancel, List.take_of_length_le (by simp)]
      rw [hcut] at hp
      exact ims_app (ims_mono (tupX_same s3) hacI) (ims_cons (im_tup hp (ims_strs xr)) ims_nil)
    · refine ite_f (decide_eq_false hh) (hs _ (Same.refl _) ?_)
      rw [etk, if_neg hh, List.append_nil]
      exact hacI
  rw [flen, List.take_length] at hacI
  have s2 := s1.trans r
  obtain ⟨gs, hgs⟩ : ∃ gs, gs = fs.filter fun f => decide (f.headD Str.empty = wat ws 0) := ⟨_, rfl⟩
  rw [← hgs] at hacI
  have gmem : ∀ g ∈ gs, g ∈ fs := fun g hg => by rw [hgs] at hg; exact (List.mem_filter.mp hg).1
  have hl2 : H1 l = some (.lst (vS ws)) := r _ _ hl1
  have hD1 : Dp K H1 (.ref D) (.list (gs.map fun f => fdD f.tail)) := .lst (SqL.of hacc) hacI.dp
  dsimp only [gName]
  refine ⟨_, rfl, Nat.zero_le _, fun p hp => ⟨_, .list [], .lst (SqL.of (same_upd hp _ _ hacc)) (ims_mono (tupX_new hp) hacI).dp, .lst (SqL.of upd_same) .nil, ?_, rfl, _, rfl, ?_⟩⟩
  · have := shaped_forms (fs := gs.map List.tail) (fun f hf x hx => by
      obtain ⟨g, hg, rfl⟩ := List.mem_map.mp hf
      exact (hF.form g (gmem g hg)).2.2.1 x (List.mem_of_mem_tail hx))
    rw [List.map_map] at this
    exact this
  rw [eqv_nil]
  have s3 := s2.trans (same_upd (o := .lst []) hp)
  cases hg0 : gs with
  | nil =>
    refine ite_t rfl (hQ _ _ ?_ s3)
    unfold spotL
    rw [← hgs, hg0] <;> rfl
  | cons g grest =>
    refine ite_f rfl ?_
    have hspot : spotL fs ws = spotF (g.tail.map canS) ws 1 := by
      unfold spotL
      rw [← hgs, hg0]
    obtain ⟨g1, g2, g3, g4⟩ := hF.form g (gmem g (by rw [hg0]; exact List.mem_cons_self))
    have htab : ("table" : Str) ∈ g.tail → ∀ y ∈ ws, (prts y).length < 64 := fun ht => by
      rw [hws]
      exact hF.tab ⟨g, gmem g (by rw [hg0]; exact List.mem_cons_self), List.mem_of_mem_tail ht⟩
    rw [hg0] at hacI
    obtain ⟨v0, ar, rfl⟩ : ∃ v0 ar, acc = v0 :: ar := by
      have h := ims_len hacI
      cases acc with
      | nil => simp at h
      | cons v0 ar => exact ⟨v0, ar, rfl⟩
    obtain ⟨d0, hd0, hIm0⟩ := ims_at (i := 0) hacI rfl
    have ed0 : fdD g.tail = d0 := Option.some.inj hd0
    subst ed0
    obtain ⟨b, xs, rfl, hb, hxs⟩ := im_ref hIm0
    have hxs := ims_texts hxs
    subst hxs
    obtain ⟨so, hso⟩ : ∃ so, so = g.tail := ⟨_, rfl⟩
    rw [← hso] at hb hspot g4 htab
    have solen : so.length ≤ 100 := by rw [hso, List.length_tail]; omega
    have hDp : (upd H1 p (.lst [])) D = some (.lst (V.ref b :: ar)) := same_upd hp _ _ hacc
    have hlp : (upd H1 p (.lst [])) l = some (.lst (vS ws)) := same_upd hp _ _ hl2
    have hbp : SqT K (upd H1 p (.lst [])) b (vS so) := sqT_same (same_upd hp) hb
    dsimp only [tNext]
    refine seq_cut (t := tFor _ _ _) (fun σ' H' => ∃ o5 o6, σ' = [some (.str z), some (.ref a), some (.ref l), some (.ref D), none, o5, o6] ∧ Same (upd H1 p (.lst [])) H' ∧ so.length + 1 ≤ ws.length ∧ spotL fs ws = spotF [] ws (so.length + 1)) (fun nx' hnx => ?_) ?_
    · refine ⟨_, rfl, D, _, 0, .ref b, rfl, rfl, SqL.of hDp, atI_nat (j := 0) rfl, b, vS so, rfl, hbp, ?_⟩
      refine for_it (walk_enumT (xs := vS so)) (fun i σ' H' => ∃ o5 o6, σ' = [some (.str z), some (.ref a), some (.ref l), some (.ref D), none, o5, o6] ∧ Same (upd H1 p (.lst [])) H' ∧ i + 1 ≤ ws.length ∧ spotL fs ws = spotF ((so.drop i).map canS) ws (i + 1))
        ⟨_, _, rfl, Same.refl _, by omega, hspot⟩ (fun i σ' H' _ ⟨_, _, _, h, _⟩ => sqT_same h hbp) (fun i x σ' H' H2 hi hP y => ?_) (fun σ' H' hP => ?_)
      · obtain ⟨o5, o6, rfl, s4, hle, hsp⟩ := hP
        obtain ⟨T1, x1, y1, rfl, hT, rfl, hx, hy⟩ := y
        cases hx
        have hi : i < so.length := by rw [List.length_map] at hi; exact hi
        have hy2 : so[i]?.map V.str = some y1 := by simpa using hy
        obtain ⟨y2, ey, rfl⟩ := Option.map_eq_some_iff.mp hy2
        have hdr : so.drop i = y2 :: so.drop (i + 1) := by
          rw [List.drop_eq_getElem_cons hi]
          rw [List.getElem?_eq_getElem hi] at ey
          rw [Option.some.inj ey]
        have hmem : y2 ∈ so := List.mem_of_getElem? ey
        rw [hdr, List.map_cons, spotF] at hsp
        have s5 := s4.trans (same_upd (o := .tup [V.int (i : Nat), V.str y2]) hT)
        have hl5 := s5 _ _ hlp
        have hret : canS y2 (wat ws (i + 1)) = false → ∀ H3, Same H H3 → Q (.int ((i : Nat) + 1)) H3 := fun h H3 sH => hQ _ _ (by
          rw [hsp, if_neg (by rw [h]; decide)]
          rfl) sH
        refine ⟨T1, _, rfl, SqT.of upd_same, rfl, _, _, rfl, _, _, rfl, rfl, ?_⟩
        refine ⟨_, rfl, _, _, rfl, rfl, _, rfl, _, _, rfl, .inl ⟨_, SqL.of hl5, rfl⟩, _, _, rfl, rfl, _, rfl, ?_⟩
        by_cases hge : ws.length ≤ i + 1
        · refine ite_t (decide_eq_true (by rw [List.length_map]; omega)) (iteT ⟨_, rfl, _, _, rfl, rfl, hret ?_ _ (s3.trans s5)⟩)
          rw [wat_out hge]
          exact can_empty _ (g4 y2 hmem)
        · have hlt : i + 1 < ws.length := by omega
          refine ite_f (decide_eq_false (by rw [List.length_map]; omega)) ?_
          refine ⟨_, rfl, _, rfl, _, rfl, _, _, rfl, rfl, l, vS ws, _, .str (wat ws (i + 1)), rfl, rfl, SqL.of hl5, at_of (j := i + 1) rfl (wat_at hlt), (y2, wat ws (i + 1)), rfl, ⟨g4 y2 hmem, (hwok _ (wat_mem hlt)).1, (hwok _ (wat_mem hlt)).2, fun q => htab (by rw [← q]; exact hmem) _ (wat_mem hlt)⟩, fun rr H3 q => ?_⟩
          obtain ⟨rfl, s6⟩ := q
          refine ⟨_, rfl, ?_⟩
          show if (!canS y2 (wat ws (i + 1))) = true then _ else _
          cases hc : canS y2 (wat ws (i + 1)) with
          | false => exact iteT ⟨_, rfl, _, _, rfl, rfl, hret hc _ ((s3.trans s5).trans s6)⟩
          | true =>
            refine iteF ⟨_, _, rfl, s5.trans s6, by omega, ?_⟩
            rw [hsp, if_pos hc]
      · obtain ⟨o5, o6, rfl, s4, hle, hsp⟩ := hP
        rw [List.length_map] at hle hsp
        refine hnx _ _ ⟨o5, o6, rfl, s4, hle, ?_⟩
        rw [hsp, List.drop_length] <;> rfl
    · rintro _ H' ⟨o5, o6, rfl, s4, hle, hsp⟩
      have hDe := s4 _ _ hDp
      have hle2 := s4 _ _ hlp
      have hbe := sqT_same s4 hbp
      have hsl : (vS so).length = so.length := by simp
      have hwl2 : (vS ws).length = ws.length := by simp
      refine ⟨_, rfl, _, _, rfl, .inl ⟨_, SqL.of hle2, rfl⟩, _, rfl, D, _, 0, .ref b, rfl, rfl, SqL.of hDe, atI_nat (j := 0) rfl, _, _, rfl, .inr ⟨_, hbe, rfl⟩, _, _, rfl, rfl, rfl, _, rfl, ?_⟩
      by_cases hq : ws.length ≤ so.length + 1
      · refine ite_t (decide_eq_true (by rw [hsl, hwl2]; exact congrArg V.int (by omega))) (hQ _ _ ?_ (s3.trans s4))
        rw [hsp, spotF, if_pos hq] <;> rfl
      · refine ite_f (decide_eq_false (by rw [hsl, hwl2]; intro z; have := V.int.inj z; omega)) ⟨_, rfl, D, _, 0, .ref b, rfl, rfl, SqL.of hDe, atI_nat (j := 0) rfl, _, _, rfl, .inr ⟨_, hbe, rfl⟩, _, _, rfl, rfl, hQ _ _ ?_ (s3.trans s4)⟩
        rw [hsp, spotF, if_neg hq, hsl] <;> rfl
end
end Fl

-- KM4
/-! the law's forms and the program's steps tell the same spots -/
namespace Fl
open PySem PySem.Spec PyProof.Rows L2 TL
theorem cs_name : canS "name" = nameB := if_pos rfl
theorem cs_number : canS "number" = cNum := (if_neg (by decide +kernel)).trans (if_pos rfl)
theorem cs_fee : canS "fee" = cFee := (if_neg (by decide +kernel)).trans ((if_neg (by decide +kernel)).trans (if_pos rfl))
theorem cs_guard : canS "guard" = cGuard := (if_neg (by decide +kernel)).trans ((if_neg (by decide +kernel)).trans ((if_neg (by decide +kernel)).trans (if_pos rfl)))
theorem cs_has : canS "has" = cHas := (if_neg (by decide +kernel)).trans ((if_neg (by decide +kernel)).trans ((if_neg (by decide +kernel)).trans ((if_neg (by decide +kernel)).trans (if_pos rfl))))
theorem cs_numbers : canS "numbers" = nmsB := (if_neg (by decide +kernel)).trans ((if_neg (by decide +kernel)).trans ((if_neg (by decide +kernel)).trans ((if_neg (by decide +kernel)).trans ((if_neg (by decide +kernel)).trans (if_pos rfl)))))
theorem cs_table : canS "table" = tblB := (if_neg (by decide +kernel)).trans ((if_neg (by decide +kernel)).trans ((if_neg (by decide +kernel)).trans ((if_neg (by decide +kernel)).trans ((if_neg (by decide +kernel)).trans (if_neg (by decide +kernel))))))
abbrev liveForms : List (List Str) := [["live", "guard", "number", "numbers", "number"]]
abbrev webForms : List (List Str) := [["kind", "name", "fee", "has", "table"], ["asker", "name"]]
theorem filt_cons (h : Str) (f : List Str) (fs : List (List Str)) (w : Str) : ((h :: f) :: fs).filter (fun f => decide (f.headD Str.empty = w)) = if h = w then (h :: f) :: fs.filter (fun f => decide (f.headD Str.empty = w)) else fs.filter (fun f => decide (f.headD Str.empty = w)) := by
  rw [List.filter_cons]
  by_cases q : h = w
  · rw [if_pos q]
    exact if_pos (decide_eq_true q)
  · rw [if_neg q]
    exact if_neg fun q2 => q (of_decide_eq_true q2)
theorem spotL_hit {h : Str} {f : List Str} {fs : List (List Str)} {ws : List Str} (q : wat ws 0 = h) : spotL ((h :: f) :: fs) ws = spotF (f.map canS) ws 1 := by
  unfold spotL
  rw [filt_cons, if_pos q.symm]
  rfl
theorem spotL_miss {h : Str} {f : List Str} {fs : List (List Str)} {ws : List Str} (q : wat ws 0 ≠ h) : spotL ((h :: f) :: fs) ws = spotL fs ws := by
  unfold spotL
  rw [filt_cons, if_neg fun z => q z.symm]
theorem spotL_nil (ws : List Str) : spotL [] ws = some 0 := rfl
theorem ev_same (ws : List Str) : spotL evForms ws = evSpot ws := by
  unfold evSpot
  by_cases h1 : wat ws 0 = ("came" : Str)
  · rw [if_pos h1, spotL_hit h1]
    simp only [List.map_cons, List.map_nil, cs_name, cs_number]
  · rw [if_neg h1, spotL_miss h1]
    by_cases h2 : wat ws 0 = ("guard" : Str)
    · rw [if_pos h2, spotL_hit h2]
      simp only [List.map_cons, List.map_nil, cs_guard]
    · rw [if_neg h2, spotL_miss h2]
      by_cases h3 : wat ws 0 = ("note" : Str)
      · rw [if_pos h3, spotL_hit h3]
        simp only [List.map_cons, List.map_nil, cs_name]
      · rw [if_neg h3, spotL_miss h3, spotL_nil]
theorem web_same (ws : List Str) : spotL webForms ws = lnSpot false ws := by
  unfold lnSpot
  rw [if_neg Bool.false_ne_true]
  by_cases h1 : wat ws 0 = ("kind" : Str)
  · rw [if_pos h1, spotL_hit h1]
    simp only [List.map_cons, List.map_nil, cs_name, cs_fee, cs_has, cs_table]
  · rw [if_neg h1, spotL_miss h1]
    by_cases h2 : wat ws 0 = ("asker" : Str)
    · rw [if_pos h2, spotL_hit h2]
      simp only [List.map_cons, List.map_nil, cs_name]
    · rw [if_neg h2, spotL_miss h2, spotL_nil]
theorem live_same (ws : List Str) : spotL liveForms ws = spotF liveC ws 0 := by
  have e : spotF liveC ws 0 = if cLive (wat ws 0) = true then spotF [cGuard, cNum, nmsB, cNum] ws 1 else some 0 := rfl
  rw [e]
  by_cases h1 : wat ws 0 = ("live" : Str)
  · have hl : cLive (wat ws 0) = true := by
      unfold cLive
      rw [h1]
      decide +kernel
    rw [spotL_hit h1, if_pos hl]
    simp only [List.map_cons, List.map_nil, cs_guard, cs_number, cs_numbers]
  · rw [spotL_miss h1, spotL_nil, if_neg]
    intro q
    have := of_decide_eq_true q
    exact h1 (List.mem_singleton.mp this)
/-! ### what a line that can stand holds -/
theorem spot_cons {c : Can} {r : List Can} {ws : List Str} {i : Nat} (h : spotF (c :: r) ws i = none) : c (wat ws i) = true ∧ spotF r ws (i + 1) = none := by
  rw [spotF] at h
  by_cases q : c (wat ws i) = true
  · rw [if_pos q] at h
    exact ⟨q, h⟩
  · rw [if_neg q] at h
    cases h
theorem spot_end {ws : List Str} {i : Nat} (h : spotF [] ws i = none) : ws.length ≤ i := by
  rw [spotF] at h
  by_cases q : ws.length ≤ i
  · exact q
  · rw [if_neg q] at h
    cases h
theorem in_range {c : Can} {ws : List Str} {i : Nat} (h : c (wat ws i) = true) (he : c Str.empty = false) : i < ws.length := Decidable.byContradiction fun q => by
  rw [wat_out (by omega), he] at h
  cases h
theorem name_empty : nameB Str.empty = false := by decide +kernel
theorem num_empty : cNum Str.empty = false := by decide +kernel
theorem num_int {z : Str} (h : cNum z = true) : intText? z = some (valN z) ∧ z.length ≤ 640 := by
  unfold cNum at h
  rw [numO_some] at h
  unfold numB at h
  simp only [Bool.and_eq_true, decide_eq_true_eq] at h
  exact ⟨digits_int h.1 h.2.1 h.2.2.1, by omega⟩
theorem fee_num {z : Str} (h : cFee z = true) : cNum z = true := by
  rw [cFee_eq] at h
  unfold cNum
  cases e : numO z with
  | none =>
    rw [e] at h
    cases h
  | some i => rfl
/-! ### the first word of a line -/
theorem spl_head (l : List Nat) : ∀ (acc : List Nat), spl [32] 0 acc l = (acc ++ l.takeWhile (fun c => decide (c ≠ 32))) :: (if 32 ∈ l then spl [32] 0 [] (l.dropWhile (fun c => decide (c ≠ 32))).tail else []) := by
  induction l with
  | nil => intro acc; rw [spl_nil]; simp
  | cons c r ih =>
    intro acc
    by_cases h : c = 32
    · subst h
      have hp : pre [32] (32 :: r) = true := by simp [pre]
      rw [spl_hit hp]
      simp
    · have hp : pre [32] (c :: r) = false := by simp [pre]; exact h
      rw [spl_miss hp, ih (acc ++ [c])]
      have d : decide (c ≠ 32) = true := decide_eq_true h
      simp only [List.takeWhile_cons, List.dropWhile_cons, d, if_true, List.append_assoc, List.cons_append, List.nil_append, List.mem_cons]
      have e : (32 = c ∨ 32 ∈ r) ↔ 32 ∈ r := ⟨fun q => q.resolve_left fun q => h q.symm, .inr⟩
      simp only [e]
theorem wat_zero (z : Str) : tl (wat (wds z) 0) = (tl z).takeWhile fun c => decide (c ≠ 32) := by
  have e := split_tl z (y := spcS) (s := 32) (S := []) (by decide +kernel) (by decide +kernel)
  rw [spl_head] at e
  have e2 : (wds z).map tl = ([] ++ (tl z).takeWhile fun c => decide (c ≠ 32)) :: (if 32 ∈ tl z then spl [32] 0 [] ((tl z).dropWhile (fun c => decide (c ≠ 32))).tail else []) := e
  cases hw : wds z with
  | nil => exact absurd hw (wds_ne z)
  | cons x r =>
    rw [hw, List.map_cons] at e2
    have := (List.cons.inj e2).1
    rw [List.nil_append] at this
    exact this
theorem more_words (z : Str) : 1 < (wds z).length ↔ 32 ∈ tl z := by
  have e := split_tl z (y := spcS) (s := 32) (S := []) (by decide +kernel) (by decide +kernel)
  rw [spl_head] at e
  have e2 := congrArg List.length e
  rw [List.length_map, List.length_cons] at e2
  have e3 : (wds z).length = (if 32 ∈ tl z then spl [32] 0 [] ((tl z).dropWhile (fun c => decide (c ≠ 32))).tail else []).length + 1 := e2
  rw [e3]
  by_cases h : 32 ∈ tl z
  · rw [if_pos h]
    have := List.length_pos_iff.mpr (spl_ne [32] ((tl z).dropWhile (fun c => decide (c ≠ 32))).tail 0 [])
    exact ⟨fun _ => h, fun _ => by omega⟩
  · rw [if_neg h]
    simp [h]
end Fl

-- KL4
/-! what the law reads out of lines -/
namespace Fl
open PySem PySem.Spec PyProof.Rows L2 TL RZ
abbrev spEventOf (K : PySem.W.Frag) : Sp := Pr (fun q : Str => [.str q]) (fun q H => q.length ≤ 90000 ∧ evSpot (wds q) = none) (fun q H r H' => Im K H' r (evD (wds q)) ∧ Same H H')
/-- t + u of tuples: some tuple of the items of both -/
def rCatU (K : PySem.W.Frag) : R2 := fun x y H Q => ∃ a b xs ys, x = .ref a ∧ y = .ref b ∧ SqT K H a xs ∧ SqT K H b ys ∧ xs.length + ys.length ≤ sizeLine ∧ ∀ p H', Same H H' → SqT K H' p (xs ++ ys) → Q (.ref p) H'
theorem op_catU {X : Cx} : OpR X (binaryOp .Add) (rCatU X.K) := by
  intro pins s σ H x y v u Q I rx ry ⟨a, b, xs, ys, e1, e2, ha, hb, hz, q⟩
  refine op_catA pins s σ H x y v u Q I rx ry ⟨a, b, xs, ys, e1, e2, ha, hb, hz, fun hx => q b H (Same.refl _) ?_, fun _ hy => q a H (Same.refl _) ?_, fun _ _ p hp => q p _ (same_upd hp) (SqT.of upd_same)⟩
  · rw [hx]
    exact hb
  · rw [hy, List.append_nil]
    exact ha
section
variable {P : Program} {w : World} {K : PySem.W.Frag} {mg : Str → Option Value} {base : Heap}
theorem ok_law_event_of (T : Tx K mg) : OkF P w K mg base CX0 1 "_law_event_of" ["_law_line_here"] (spEventOf K) := by
  have sc : FnScope ["_law_line_here", "_law_words"] ["_law_line_here"] (defScope (topS 59)) := ⟨rfl, rfl, rfl, by decide +kernel, rfl, by decide +kernel, by decide +kernel⟩
  refine okF T 43 59 rfl sc (fun _ _ _ _ _ _ us hl => match us, hl with | [_], _ => rfl) (fun vs H Q E ⟨_, e, _⟩ => by rw [e] <;> rfl) fun cdv A outer s H vs Q E hr ⟨z, e, ⟨hz, hsp⟩, hQ⟩ => ?_
  have e : vs = [V.str z] := e
  subst e
  have hS : 200000 ≤ sizeLine := by rw [sizeLine_eq]; decide
  have hz : z.length ≤ 90000 := hz
  obtain ⟨ws, hws⟩ : ∃ ws, ws = wds z := ⟨_, rfl⟩
  have hne : ws ≠ [] := by rw [hws]; exact wds_ne z
  have hpos : 0 < ws.length := List.length_pos_iff.mpr hne
  have hQ : ∀ r H', Im K H' r (evD ws) → Same H H' → Q r H' := fun r H' a b => hQ r H' ⟨by rw [← hws]; exact a, b⟩
  have hsp : evSpot ws = none := by rw [hws]; exact hsp
  refine ⟨_, PSs.nox (pss_cons (ps_set (i := 1) sc.nd rfl (Or.inl rfl) (pe_split (pv 0) pe_str))
 (pss_cons (ps_if (pt_cmpR op_eq (pe_ix ix_list (pv 1) pe_int (fun _ _ => rfl)) pe_str (nomark _)) (pss_one (ps_ret (pe_tup (pa_cons pe_str (pa_cons (pe_tup (pa_cons (pe_ix ix_list (pv 1) pe_int (fun _ _ => rfl)) (pa_cons (pe_callTy call_int_str rfl (T.bl (x := "int")) (by decide +kernel) (pa_cons (pe_ix ix_list (pv 1) pe_int (fun _ _ => rfl)) pa_nil)) pa_nil))) (pa_cons (pe_tup (pa_cons (pe_ix ix_list (pv 1) pe_int (fun _ _ => rfl)) (pa_cons (pe_callTy call_int_str rfl (T.bl (x := "int")) (by decide +kernel) (pa_cons (pe_ix ix_list (pv 1) pe_int (fun _ _ => rfl)) pa_nil)) pa_nil))) pa_nil)))))) pss_nil)
 (pss_one (ps_ret (pe_tup (pa_cons (pe_ix ix_list (pv 1) pe_int (fun _ _ => rfl)) (pa_cons (pe_ix ix_list (pv 1) pe_int (fun _ _ => rfl)) pa_nil))))))), ?_⟩
  refine ⟨_, rfl, ⟨_, rfl⟩, _, _, rfl, rfl, spc_len, by omega, fun l hl => ?_⟩
  have s1 : Same H (upd H l (.lst ((Txt.split z spcS).map V.str))) := same_upd hl
  have hl1 : (upd H l (.lst ((Txt.split z spcS).map V.str))) l = some (.lst (vS ws)) := by rw [upd_same, hws] <;> rfl
  refine ⟨_, rfl, l, vS ws, 0, .str (wat ws 0), rfl, rfl, SqL.of hl1, atI_nat (j := 0) (wat_at hpos), rfl, _, rfl, ?_⟩
  rw [dec_str]
  by_cases hc : wat ws 0 = ("came" : Str)
  · refine ite_t (decide_eq_true hc) ?_
    unfold evSpot at hsp
    rw [if_pos hc] at hsp
    obtain ⟨c1, hsp⟩ := spot_cons hsp
    obtain ⟨c2, hsp⟩ := spot_cons hsp
    obtain ⟨c3, hsp⟩ := spot_cons hsp
    obtain ⟨c4, hsp⟩ := spot_cons hsp
    have l4 : 4 < ws.length := in_range c4 num_empty
    refine ⟨_, rfl, l, vS ws, 1, .str (wat ws 1), rfl, rfl, SqL.of hl1, at_of (j := 1) rfl (wat_at (by omega)), _, rfl, l, vS ws, 2, .str (wat ws 2), rfl, rfl, SqL.of hl1, at_of (j := 2) rfl (wat_at (by omega)), _, _, rfl, (num_int c2).1, (num_int c2).2, by show 2 ≤ _; omega, fun p1 h1 => ?_⟩
    have hl2 := same_upd (o := .tup [V.str (wat ws 1), V.int (valN (wat ws 2))]) h1 _ _ hl1
    refine ⟨_, rfl, l, vS ws, 3, .str (wat ws 3), rfl, rfl, SqL.of hl2, at_of (j := 3) rfl (wat_at (by omega)), _, rfl, l, vS ws, 4, .str (wat ws 4), rfl, rfl, SqL.of hl2, at_of (j := 4) rfl (wat_at (by omega)), _, _, rfl, (num_int c4).1, (num_int c4).2, by show 2 ≤ _; omega, fun p2 h2 => ⟨by show 3 ≤ _; omega, fun p3 h3 => hQ _ _ ?_ ((s1.trans (same_upd h1)).trans ((same_upd h2).trans (same_upd h3)))⟩⟩
    unfold evD storeD
    rw [if_pos hc]
    refine im_tup (SqT.of upd_same) (ims_cons (im_str _) (ims_cons (im_tup (SqT.of (same_upd h3 _ _ (same_upd h2 _ _ upd_same))) (ims_cons (im_str _) (ims_cons (im_int _) ims_nil))) (ims_cons (im_tup (SqT.of (same_upd h3 _ _ upd_same)) (ims_cons (im_str _) (ims_cons (im_int _) ims_nil))) ims_nil)))
  · refine ite_f (decide_eq_false hc) ?_
    have l1 : 1 < ws.length := by
      unfold evSpot at hsp
      rw [if_neg hc] at hsp
      by_cases hg : wat ws 0 = ("guard" : Str)
      · rw [if_pos hg] at hsp
        exact in_range (spot_cons hsp).1 (by decide +kernel)
      · rw [if_neg hg] at hsp
        by_cases hn : wat ws 0 = ("note" : Str)
        · rw [if_pos hn] at hsp
          exact in_range (spot_cons hsp).1 name_empty
        · rw [if_neg hn] at hsp
          cases hsp
    refine ⟨_, rfl, l, vS ws, 0, .str (wat ws 0), rfl, rfl, SqL.of hl1, atI_nat (j := 0) (wat_at hpos), _, rfl, l, vS ws, 1, .str (wat ws 1), rfl, rfl, SqL.of hl1, at_of (j := 1) rfl (wat_at l1), by show 2 ≤ _; omega, fun p1 h1 => hQ _ _ ?_ (s1.trans (same_upd h1))⟩
    unfold evD
    rw [if_neg hc]
    exact im_tup (SqT.of upd_same) (ims_cons (im_str _) (ims_cons (im_str _) ims_nil))
end
end Fl

-- KL5
/-! what the law reads out of a whole log -/
namespace Fl
open PySem PySem.Spec PyProof.Rows L2 TL RZ
/-! ### a log that can stand, taken apart -/
theorem web_parts : ∀ {rows : List Str} {k : Nat}, webF k false rows = none → ∃ front last, rows = front ++ [last] ∧ (∀ x ∈ front, wat (wds x) 0 = ("kind" : Str) ∧ spotF kindC (wds x) 1 = none) ∧ wat (wds last) 0 = ("asker" : Str) ∧ spotF [nameB] (wds last) 1 = none
  | [], k, h => by cases h
  | x :: r, k, h => by
    rw [webF_cons] at h
    cases hs : lnSpot false (wds x) with
    | some s =>
      rw [hs] at h
      cases h
    | none =>
      rw [hs] at h
      have h : webF (k + 1) (isAsk (wds x)) r = none := h
      unfold lnSpot at hs
      rw [if_neg Bool.false_ne_true] at hs
      by_cases hk : wat (wds x) 0 = ("kind" : Str)
      · rw [if_pos hk] at hs
        have ha : isAsk (wds x) = false := decide_eq_false (by rw [hk]; decide +kernel)
        rw [ha] at h
        obtain ⟨front, last, e, h1, h2, h3⟩ := web_parts h
        refine ⟨x :: front, last, by rw [e] <;> rfl, fun y hy => ?_, h2, h3⟩
        rcases List.mem_cons.mp hy with rfl | hy
        · exact ⟨hk, hs⟩
        · exact h1 y hy
      · rw [if_neg hk] at hs
        by_cases hq : wat (wds x) 0 = ("asker" : Str)
        · rw [if_pos hq] at hs
          have ha : isAsk (wds x) = true := decide_eq_true hq
          rw [ha] at h
          cases r with
          | nil => exact ⟨[], x, rfl, (fun y hy => nomatch hy), hq, hs⟩
          | cons y r =>
            rw [webF_cons] at h
            unfold lnSpot at h
            rw [if_pos rfl] at h
            cases h
        · rw [if_neg hq] at hs
          cases hs
theorem ev_all : ∀ {l : List Str} {k : Nat}, evF k l = none → ∀ y ∈ l, evSpot (wds y) = none
  | [], k, h, y, hy => nomatch hy
  | x :: r, k, h, y, hy => by
    rw [evF_cons] at h
    cases hs : evSpot (wds x) with
    | some s =>
      rw [hs] at h
      cases h
    | none =>
      rw [hs] at h
      rcases List.mem_cons.mp hy with rfl | hy
      · exact hs
      · exact ev_all (k := k + 1) h y hy
structure LogOk (x : Str) (r : List Str) (front : List Str) (last : Str) : Prop where
  live : spotF liveC (wds x) 0 = none
  rows : rowsN x r = front ++ [last]
  kind : ∀ y ∈ front, wat (wds y) 0 = ("kind" : Str) ∧ spotF kindC (wds y) 1 = none
  ask : wat (wds last) 0 = ("asker" : Str) ∧ spotF [nameB] (wds last) 1 = none
  le : manyN x ≤ r.length
  ev : ∀ y ∈ r.drop (manyN x), evSpot (wds y) = none
theorem log_parts {x : Str} {r : List Str} (h : logF (x :: r) = none) : ∃ front last, LogOk x r front last := by
  rw [logF_cons] at h
  cases h1 : spotF liveC (wds x) 0 with
  | some s =>
    rw [h1] at h
    cases h
  | none =>
    rw [h1] at h
    cases h2 : webF 0 false (rowsN x r) with
    | some p =>
      rw [h2] at h
      cases h
    | none =>
      rw [h2] at h
      have h : (if r.length < manyN x then some (r.length + 1, 0) else evF (manyN x + 1) (r.drop (manyN x))) = none := h
      by_cases hl : r.length < manyN x
      · rw [if_pos hl] at h
        cases h
      · rw [if_neg hl] at h
        obtain ⟨front, last, e, a1, a2, a3⟩ := web_parts h2
        exact ⟨front, last, h1, e, a1, ⟨a2, a3⟩, by omega, ev_all h⟩
theorem LogOk.len {x : Str} {r front : List Str} {last : Str} (h : LogOk x r front last) : manyN x = front.length + 1 := by
  have e := congrArg List.length h.rows
  unfold rowsN at e
  rw [List.length_take, List.length_append, List.length_singleton] at e
  have := h.le
  omega
theorem LogOk.at {x : Str} {r front : List Str} {last : Str} (h : LogOk x r front last) : r[front.length]? = some last ∧ r.take front.length = front := by
  have e := h.rows
  have hl := h.len
  have hle := h.le
  unfold rowsN at e
  constructor
  · have e1 : (r.take (manyN x))[front.length]? = some last := by
      rw [e, List.getElem?_append_right (Nat.le_refl _), Nat.sub_self]
      rfl
    rw [List.getElem?_take, if_pos (by omega)] at e1
    exact e1
  · have e1 : (r.take (manyN x)).take front.length = front := by rw [e, List.take_left]
    rw [List.take_take, show min front.length (manyN x) = front.length from by omega] at e1
    exact e1
theorem cut_from (x : Str) (r : List Str) (m : Nat) (h : m ≤ r.length) : cutV (vS (x :: r)) (some ((m + 1 : Nat) : Int)) none = vS (r.drop m) := by
  unfold cutV
  rw [HT.sIx_nat, HT.sIx_none]
  have hl : (vS (x :: r)).length = r.length + 1 := by simp
  rw [hl, show min (m + 1) (r.length + 1) = m + 1 from by omega]
  show ((vS r).drop m).take _ = vS (r.drop m)
  rw [show vS (r.drop m) = (vS r).drop m from List.map_drop, List.take_of_length_le (by simp)]
abbrev spLogOf (K : PySem.W.Frag) : Sp := Pr (fun q : Addr × Str × List Str => [.ref q.1, .int ((manyN q.2.1 : Nat) + 1)]) (fun q H => H q.1 = some (.lst (vS (q.2.1 :: q.2.2))) ∧ LnsOk (q.2.1 :: q.2.2) ∧ q.2.2.length ≤ 90000 ∧ logF (q.2.1 :: q.2.2) = none) (fun q H r H' => Im K H' r (logD (q.2.1 :: q.2.2)) ∧ Same H H')
theorem nums_mem {z : Str} (h : nmsB z = true) : ∀ x ∈ prts z, cNum x = true := fun x hx => by
  have := List.all_eq_true.mp h x hx
  rw [cnt_same] at this
  exact fee_num this
section
variable {P : Program} {w : World} {K : PySem.W.Frag} {mg : Str → Option Value} {base : Heap}
theorem ok_law_log_of (T : Tx K mg) : OkF P w K mg base CX0 2 "_law_log_of" ["_law_lines_here", "_law_end"] (spLogOf K) := by
  have sc : FnScope ["_law_lines_here", "_law_end", "_law_words", "_law_kinds", "_law_line_here", "_law_own", "_law_table", "_law_counts", "_law_first", "_law_one"] ["_law_lines_here", "_law_end"] (defScope (topS 60)) := ⟨rfl, rfl, rfl, by decide +kernel, rfl, by decide +kernel, by decide +kernel⟩
  refine okF T 44 60 rfl sc (fun _ _ _ _ _ _ us hl => match us, hl with | [_, _], _ => rfl) (fun vs H Q E ⟨_, e, _⟩ => by rw [e] <;> rfl) fun cdv A outer s H vs Q E hr ⟨⟨a, x0, r0⟩, e, ⟨ha, hk, hn, hlog⟩, hQ⟩ => ?_
  have e : vs = [V.ref a, V.int ((manyN x0 : Nat) + 1)] := e
  subst e
  have hS : 200000 ≤ sizeLine := by rw [sizeLine_eq]; decide
  have ha : H a = some (.lst (vS (x0 :: r0))) := ha
  have hk : LnsOk (x0 :: r0) := hk
  have hn : r0.length ≤ 90000 := hn
  have hlog : logF (x0 :: r0) = none := hlog
  obtain ⟨front, last, L⟩ := log_parts hlog
  have hm := L.len
  obtain ⟨hat, htk⟩ := L.at
  have hle := L.le
  obtain ⟨ws, hws⟩ : ∃ ws, ws = wds x0 := ⟨_, rfl⟩
  obtain ⟨c0, hsp⟩ := spot_cons L.live
  obtain ⟨c1, hsp⟩ := spot_cons hsp
  obtain ⟨c2, hsp⟩ := spot_cons hsp
  obtain ⟨c3, hsp⟩ := spot_cons hsp
  obtain ⟨c4, hsp⟩ := spot_cons hsp
  rw [← hws] at c0 c1 c2 c3 c4
  have l4 : 4 < ws.length := in_range c4 num_empty
  have hx0 := (hk.ok x0 List.mem_cons_self).1
  have hx01 := hx0.1
  have hw3 : (wat ws 3).length ≤ 900 := by
    rw [hws]
    exact hx0.2 _ (wat_mem (by rw [← hws]; omega))
  refine ⟨_, PSs.nox (pss_cons (ps_par (i := 2) (j := 3) (by rfl) sc.nd rfl rfl (by decide) rfl rfl (pa_cons (pe_split (pe_ix ix_list (pv 0) pe_int (fun _ _ => rfl)) pe_str) (pa_cons (pe_lst pa_nil) pa_nil)) (by rfl))
 (pss_cons (ps_for PassesOwn.never rfl (pi_list (pe_slice sl_list (pv 0) (po_some pe_int) (po_some (pe_op op_sub (pv 1) pe_int)))) (pg_name (i := 4) sc.nd rfl (.inl rfl) (hf := .inr rfl)) (pss_cons (ps_set (i := 5) sc.nd rfl (Or.inl rfl) (pe_split (pv 4) pe_str))
 (pss_cons (ps_set (i := 6) sc.nd rfl (Or.inl rfl) (pe_ifExp (pt_cmpR op_ne (pe_ix ix_list (pv 5) pe_int (fun _ _ => rfl)) pe_str (nomark _)) (pe_callTy call_tuple_of rfl (T.bl (x := "tuple")) (by decide +kernel) (pa_cons (pe_split (pe_ix ix_list (pv 5) pe_int (fun _ _ => rfl)) pe_str) pa_nil)) (pe_tup pa_nil)))
 (pss_one (ps_expr (pe_bm PySem.F.plainAttrs_list PySem.F.slot_list_append PySem.F.type_list_append mt_append (pv 3) (pa_cons (pe_tup (pa_cons (pe_ix ix_list (pv 5) pe_int (fun _ _ => rfl)) (pa_cons (pe_callTy call_int_str rfl (T.bl (x := "int")) (by decide +kernel) (pa_cons (pe_ix ix_list (pv 5) pe_int (fun _ _ => rfl)) pa_nil)) (pa_cons (pe_cmpR op_eq (pe_ix ix_list (pv 5) pe_int (fun _ _ => rfl)) pe_str (nomark _)) (pa_cons (pv 6) pa_nil))))) pa_nil)))))))
 (pss_cons (ps_set (i := 7) sc.nd rfl (Or.inl rfl) (pe_callTy call_tuple_of rfl (T.bl (x := "tuple")) (by decide +kernel) (pa_cons (pe_lc (own := [("_law_one", 9)]) (g := gName 9) (by rfl) sc.nd (pi_list (pe_split (pe_ix ix_list (pv 2) pe_int (fun _ _ => rfl)) pe_str)) (blkOk_by (own := [("_law_one", 9)]) (N := ["_law_lines_here", "_law_end", "_law_words", "_law_kinds", "_law_line_here", "_law_own", "_law_table", "_law_counts", "_law_first", "_law_one"]) (sc := (defScope (topS 60))) (by decide +kernel)) (fun _ _ _ _ _ => (pg_name (i := 9) sc.nd rfl (.inl rfl) (hf := .inr rfl))) (fun _ _ _ _ _ => pts_nil) (fun _ _ _ _ _ => (pe_callTy call_int_str rfl (T.bl (x := "int")) (by decide +kernel) (pa_cons (pv 9) pa_nil)))) pa_nil)))
 (pss_cons (ps_set (i := 8) sc.nd rfl (Or.inl rfl) (pe_tup (pa_cons pe_str (pa_cons (pe_tup (pa_cons (pe_callTy call_tuple_of rfl (T.bl (x := "tuple")) (by decide +kernel) (pa_cons (pv 3) pa_nil)) (pa_cons (pe_ix ix_list (pe_split (pe_ix ix_list (pv 0) (pe_op op_sub (pv 1) pe_int) (fun _ _ => rfl)) pe_str) pe_int (fun _ _ => rfl)) pa_nil))) (pa_cons (pv 7) (pa_cons (pe_callTy call_int_str rfl (T.bl (x := "int")) (by decide +kernel) (pa_cons (pe_ix ix_list (pv 2) pe_int (fun _ _ => rfl)) pa_nil)) (pa_cons (pe_ix ix_list (pv 2) pe_int (fun _ _ => rfl)) pa_nil)))))))
 (pss_one (ps_ret (pe_op op_catU (pe_tup (pa_cons (pv 8) pa_nil)) (pe_callTy call_tuple_of rfl (T.bl (x := "tuple")) (by decide +kernel) (pa_cons (pe_lc (own := [("_law_line_here", 4)]) (g := gName 4) (by rfl) sc.nd (pi_list (pe_slice sl_list (pv 0) (po_some (pv 1)) po_none)) (blkOk_by (own := [("_law_line_here", 4)]) (N := ["_law_lines_here", "_law_end", "_law_words", "_law_kinds", "_law_line_here", "_law_own", "_law_table", "_law_counts", "_law_first", "_law_one"]) (sc := (defScope (topS 60))) (by decide +kernel)) (fun _ _ _ _ _ => (pg_name (i := 4) sc.nd rfl (.inl rfl) (hf := .inr rfl))) (fun _ _ _ _ _ => pts_nil) (fun _ _ _ _ _ => (pe_fn (ok_law_event_of T) (hr.mono (by decide)) pass0 (pa_cons (pv 4) pa_nil)))) pa_nil))))))))), ?_⟩
  -- words, kinds
  refine ⟨_, rfl, a, _, 0, .str x0, rfl, rfl, SqL.of ha, atI_nat (j := 0) rfl, ⟨_, rfl⟩, _, _, rfl, rfl, spc_len, by omega, fun l hl => ⟨Nat.zero_le _, fun kk hkk => ⟨_, _, rfl, ?_⟩⟩⟩
  have e1 : (Txt.split x0 spcS).map V.str = vS ws := by rw [hws] <;> rfl
  rw [e1] at hkk ⊢
  have s1 : Same H (upd (upd H l (.lst (vS ws))) kk (.lst [])) := (same_upd hl).trans (same_upd hkk)
  have hl1 : (upd (upd H l (.lst (vS ws))) kk (.lst [])) l = some (.lst (vS ws)) := same_upd hkk _ _ upd_same
  have ha1 := s1 _ _ ha
  have hk1 : (upd (upd H l (.lst (vS ws))) kk (.lst [])) kk = some (.lst []) := upd_same
  have nkk : ∀ b o, H b = some o → b ≠ kk := fun b o h => ne_of_none (same_upd hl b o h) hkk
  have nlk : l ≠ kk := ne_of_none (upd_same (H := H) (o := .lst (vS ws))) hkk
  obtain ⟨H1, hH1⟩ : ∃ H1, H1 = upd (upd H l (.lst (vS ws))) kk (.lst []) := ⟨_, rfl⟩
  rw [← hH1] at s1 hl1 ha1 hk1 ⊢
  dsimp only [gName]
  -- the kinds
  refine seq_cut (t := tFor _ _ _) (fun σ' H' => ∃ o4 o5 o6 ks, σ' = [some (.ref a), some (.int ((manyN x0 : Nat) + 1)), some (.ref l), some (.ref kk), o4, o5, o6, none, none, none] ∧ Same H H' ∧ H' l = some (.lst (vS ws)) ∧ H' kk = some (.lst ks) ∧ ImAll K H' ks (front.map fun x => kindD (wds x))) (fun nx' hnx => ?_) ?_
  · refine ⟨_, rfl, 1, rfl, _, rfl, _, _, rfl, rfl, _, rfl, a, vS (x0 :: r0), rfl, SqL.of ha1, fun ra hra => ?_⟩
    have hrk : ra ≠ kk := Ne.symm (ne_of_none hk1 hra)
    have hcut : cutV (vS (x0 :: r0)) (some 1) (some (((manyN x0 : Nat) : Int) + 1 - 1)) = vS front := by
      have e2 : ((manyN x0 : Nat) : Int) + 1 - 1 = ((front.length : Nat) : Int) + 1 := by omega
      rw [e2, cut_rows, htk]
    refine ⟨ra, rfl, ⟨_, SqL.of upd_same⟩, ?_⟩
    rw [hcut]
    have flen : front.length ≤ 90000 := by omega
    refine for_it (walk_list (K := K) (a := ra) (xs := vS front)) (fun i σ' H' => ∃ o4 o5 o6 ks, σ' = [some (.ref a), some (.int ((manyN x0 : Nat) + 1)), some (.ref l), some (.ref kk), o4, o5, o6, none, none, none] ∧ Same H H' ∧ H' l = some (.lst (vS ws)) ∧ H' kk = some (.lst ks) ∧ H' ra = some (.lst (vS front)) ∧ ks.length ≤ i ∧ ImAll K H' ks ((front.take i).map fun x => kindD (wds x)))
      ⟨_, _, _, [], rfl, s1.trans (same_upd hra), same_upd hra _ _ hl1, same_upd hra _ _ hk1, upd_same, Nat.le_refl _, ims_nil⟩ (fun i σ' H' _ ⟨_, _, _, _, _, _, _, _, h, _⟩ => SqL.of h) (fun i x σ' H' H2 hi hP y => ?_) (fun σ' H' hP => ?_)
    · obtain ⟨o4, o5, o6, ks, rfl, s2, g1, g2, g3, hlen, hI⟩ := hP
      obtain ⟨rfl, hy⟩ := y
      have hy2 : front[i]?.map V.str = some x := by simpa using hy
      obtain ⟨y, ey, rfl⟩ := Option.map_eq_some_iff.mp hy2
      have hmem : y ∈ front := List.mem_of_getElem? ey
      have hi : i < front.length := (List.getElem?_eq_some_iff.mp ey).1
      obtain ⟨k0, hks⟩ := L.kind y hmem
      have hyl : y ∈ x0 :: r0 := List.mem_cons_of_mem _ (by rw [← htk] at hmem; exact List.mem_of_mem_take hmem)
      have hyt := (hk.ok y hyl).1
      have hyt1 := hyt.1
      obtain ⟨own, hown⟩ : ∃ own, own = wds y := ⟨_, rfl⟩
      rw [← hown] at hks
      obtain ⟨d1, hks⟩ := spot_cons hks
      obtain ⟨d2, hks⟩ := spot_cons hks
      obtain ⟨d3, hks⟩ := spot_cons hks
      obtain ⟨d4, hks⟩ := spot_cons hks
      have n4 : 4 < own.length := in_range d4 (by decide +kernel)
      have hw4 : (wat own 4).length ≤ 900 := by
        rw [hown]
        exact hyt.2 _ (wat_mem (by rw [← hown]; exact n4))
      refine ⟨_, rfl, ⟨_, rfl⟩, _, _, rfl, rfl, spc_len, by omega, fun ol hol => ?_⟩
      have e3 : (Txt.split y spcS).map V.str = vS own := by rw [hown] <;> rfl
      rw [e3]
      have s3 := s2.trans (same_upd (o := .lst (vS own)) hol)
      have hok : ol ≠ kk := Ne.symm (ne_of_none g2 hol)
      dsimp only [gName]
      refine seq_asg (fun v H3 => ∃ b, v = .ref b ∧ Same (upd H2 ol (.lst (vS own))) H3 ∧ SqT K H3 b (vS (tblP (wat own 4)))) (fun Q' hQ' => ?_) ?_
      · refine ⟨_, rfl, ol, vS own, 4, .str (wat own 4), rfl, rfl, SqL.of upd_same, at_of (j := 4) rfl (wat_at n4), rfl, _, rfl, ?_⟩
        rw [dec_str]
        by_cases hd : wat own 4 = ("-" : Str)
        · refine ite_f (by rw [decide_eq_true hd] <;> rfl) ⟨Nat.zero_le _, fun p hp => hQ' _ _ ⟨p, rfl, same_upd hp, SqT.of ?_⟩⟩
          rw [upd_same]
          unfold tblP
          rw [if_pos hd] <;> rfl
        · refine ite_t (by rw [decide_eq_false hd] <;> rfl) ⟨_, rfl, ol, vS own, 4, .str (wat own 4), rfl, rfl, SqL.of upd_same, at_of (j := 4) rfl (wat_at n4), ⟨_, rfl⟩, _, _, rfl, rfl, one_len, by omega, fun p hp => ⟨p, _, rfl, .inl ⟨SqL.of upd_same, fun q hq => hQ' _ _ ⟨q, rfl, (same_upd hp).trans (same_upd hq), SqT.of ?_⟩⟩⟩⟩
          rw [upd_same]
          unfold tblP
          rw [if_neg hd] <;> rfl
      · rintro _ H3 ⟨b, rfl, s4, hb⟩
        have s5 := s3.trans s4
        have o3 : H3 ol = some (.lst (vS own)) := s4 _ _ upd_same
        have k3 : H3 kk = some (.lst ks) := s4 _ _ (same_upd hol _ _ g2)
        have l3 : H3 l = some (.lst (vS ws)) := s4 _ _ (same_upd hol _ _ g1)
        have r3 : H3 ra = some (.lst (vS front)) := s4 _ _ (same_upd hol _ _ g3)
        refine ⟨_, rfl, .inl ⟨rfl, _, SqL.of k3⟩, _, rfl, ol, vS own, 1, .str (wat own 1), rfl, rfl, SqL.of o3, at_of (j := 1) rfl (wat_at (by omega)), _, rfl, ol, vS own, 2, .str (wat own 2), rfl, rfl, SqL.of o3, at_of (j := 2) rfl (wat_at (by omega)), _, _, rfl, (num_int (fee_num d2)).1, (num_int (fee_num d2)).2,
          _, rfl, ol, vS own, 3, .str (wat own 3), rfl, rfl, SqL.of o3, at_of (j := 3) rfl (wat_at (by omega)), rfl, _, rfl, by show 4 ≤ _; omega, fun p hp => ?_⟩
        rw [dec_str]
        have k4 : (upd H3 p (.tup [V.str (wat own 1), V.int (valN (wat own 2)), V.bl (decide (wat own 3 = ("has" : Str))), V.ref b])) kk = some (.lst ks) := same_upd hp _ _ k3
        have npk : p ≠ kk := Ne.symm (ne_of_none k3 hp)
        refine ⟨kk, ks, _, rfl, rfl, k4, by omega, _, _, _, _, rfl, fun c o h => ?_, ?_, upd_same, ?_, by simp; omega, ?_⟩
        · rw [upd_ne (nkk c o h)]
          exact same_upd hp _ _ (s5 c o h)
        · rw [upd_ne nlk]
          exact same_upd hp _ _ l3
        · rw [upd_ne hrk]
          exact same_upd hp _ _ r3
        · rw [List.take_succ, ey, List.map_append]
          have t1 : TupX H2 (upd H3 p (.tup [V.str (wat own 1), V.int (valN (wat own 2)), V.bl (decide (wat own 3 = ("has" : Str))), V.ref b])) := ((tupX_new hol).trans (tupX_same s4)).trans (tupX_new hp)
          refine ims_mono (tupX_lst k4) (ims_app (ims_mono t1 hI) (ims_cons ?_ ims_nil))
          show Im K _ _ (kindD (wds y))
          rw [← hown]
          exact im_tup (SqT.of upd_same) (ims_cons (im_str _) (ims_cons (im_int _) (ims_cons (im_bl _) (ims_cons (im_tup (sqT_same (same_upd hp) hb) (ims_strs _)) ims_nil))))
    · obtain ⟨o4, o5, o6, ks, rfl, s2, g1, g2, g3, hlen, hI⟩ := hP
      rw [List.length_map, List.take_length] at hI
      exact hnx _ _ ⟨o4, o5, o6, ks, rfl, s2, g1, g2, hI⟩
  · rintro _ H2 ⟨o4, o5, o6, ks, rfl, s2, g1, g2, hI⟩
    have hpl := prts_len (wat ws 3)
    -- the counts
    refine ⟨_, rfl, l, vS ws, 3, .str (wat ws 3), rfl, rfl, SqL.of g1, at_of (j := 3) rfl (wat_at (by omega)), ⟨_, rfl⟩, _, _, rfl, rfl, one_len, by omega, fun p hp => ⟨p, rfl, ⟨_, SqL.of upd_same⟩, fun D hD => ?_⟩⟩
    refine lcw (walk_list (xs := vS (prts (wat ws 3)))) fram_same hD (by rw [List.length_map]; omega) (fun H' r => SqL.of (r _ _ upd_same)) (fun i acc _ => acc = ((prts (wat ws 3)).take i).map fun x => V.int (valN x)) (fun _ _ _ _ _ h => h) (by simp) (fun i x acc H3 H4 hi r y hacI hacc => ?_) (fun H3 acc r hacc hacI => ?_)
    · obtain ⟨rfl, hy⟩ := y
      intro Zk Zs hkp _
      have hy2 : (prts (wat ws 3))[i]?.map V.str = some x := by simpa using hy
      obtain ⟨y, ey, rfl⟩ := Option.map_eq_some_iff.mp hy2
      have hc := num_int (nums_mem c3 y (List.mem_of_getElem? ey))
      refine ⟨rfl, yes_turn ⟨_, rfl, y, _, rfl, hc.1, hc.2, hkp _ _ (Same.refl _) ?_⟩⟩
      rw [hacI, List.take_succ, ey, List.map_append]
      rfl
    · rw [List.length_map, List.take_length] at hacI
      rw [hacI] at hacc
      have s3 := (s2.trans (same_upd (o := .lst ((Txt.split (wat ws 3) comS).map V.str)) hp)).trans r
      refine ⟨D, _, rfl, .inl ⟨SqL.of hacc, fun ct hct => ?_⟩⟩
      have s4 := s3.trans (same_upd (o := .tup ((prts (wat ws 3)).map fun x => V.int (valN x))) hct)
      have g3 := same_upd (o := .tup ((prts (wat ws 3)).map fun x => V.int (valN x))) hct _ _ (r _ _ (same_upd hp _ _ g1))
      have g4 := same_upd (o := .tup ((prts (wat ws 3)).map fun x => V.int (valN x))) hct _ _ (r _ _ (same_upd hp _ _ g2))
      have t4 : TupX H2 (upd H3 ct (.tup ((prts (wat ws 3)).map fun x => V.int (valN x)))) := (tupX_new hp).trans ((tupX_same r).trans (tupX_new hct))
      obtain ⟨H5, hH5⟩ : ∃ H5, H5 = upd H3 ct (.tup ((prts (wat ws 3)).map fun x => V.int (valN x))) := ⟨_, rfl⟩
      have hct5 : H5 ct = some (.tup ((prts (wat ws 3)).map fun x => V.int (valN x))) := by rw [hH5, upd_same]
      rw [← hH5] at s4 g3 g4 t4 ⊢
      have hI5 := ims_mono t4 hI
      -- the head
      refine ⟨_, rfl, kk, ks, rfl, .inl ⟨SqL.of g4, fun tk htk2 => ?_⟩⟩
      have hlast : (vS (x0 :: r0))[front.length + 1]? = some (V.str last) := by
        rw [List.getElem?_map, List.getElem?_cons_succ, hat] <;> rfl
      have hlmem : last ∈ x0 :: r0 := List.mem_cons_of_mem _ (List.mem_of_getElem? hat)
      have hlt := (hk.ok last hlmem).1
      have hlt1 := hlt.1
      have q1 : 1 < (wds last).length := in_range (spot_cons L.ask.2).1 name_empty
      refine ⟨_, rfl, _, rfl, _, _, rfl, rfl, a, _, _, .str last, rfl, rfl, SqL.of (same_upd htk2 _ _ (s4 _ _ ha)), at_of (j := front.length + 1) (by omega) hlast, ⟨_, rfl⟩, _, _, rfl, rfl, spc_len, by omega, fun lw hlw => ⟨lw, _, 1, .str (wat (wds last) 1), rfl, rfl, SqL.of upd_same, at_of (j := 1) rfl (wat_at q1), by show 2 ≤ _; omega, fun tw htw => ?_⟩⟩
      have s6 : Same H5 (upd (upd (upd H5 tk (.tup ks)) lw (.lst ((Txt.split last spcS).map V.str))) tw (.tup [V.ref tk, V.str (wat (wds last) 1)])) := ((same_upd htk2).trans (same_upd hlw)).trans (same_upd htw)
      have htk6 : (upd (upd (upd H5 tk (.tup ks)) lw (.lst ((Txt.split last spcS).map V.str))) tw (.tup [V.ref tk, V.str (wat (wds last) 1)])) tk = some (.tup ks) := same_upd htw _ _ (same_upd hlw _ _ upd_same)
      obtain ⟨H6, hH6⟩ : ∃ H6, H6 = upd (upd (upd H5 tk (.tup ks)) lw (.lst ((Txt.split last spcS).map V.str))) tw (.tup [V.ref tk, V.str (wat (wds last) 1)]) := ⟨_, rfl⟩
      have htw6 : H6 tw = some (.tup [V.ref tk, V.str (wat (wds last) 1)]) := by rw [hH6, upd_same]
      rw [← hH6] at s6 htk6 ⊢
      have g6 := s6 _ _ g3
      refine ⟨_, rfl, _, rfl, l, vS ws, 2, .str (wat ws 2), rfl, rfl, SqL.of g6, at_of (j := 2) rfl (wat_at (by omega)), _, _, rfl, (num_int c2).1, (num_int c2).2, _, rfl, l, vS ws, 1, .str (wat ws 1), rfl, rfl, SqL.of g6, at_of (j := 1) rfl (wat_at (by omega)), by show 5 ≤ _; omega, fun tf htf => ?_⟩
      have s7 := s6.trans (same_upd (o := .tup [V.str ("live" : Str), V.ref tw, V.ref ct, V.int (valN (wat ws 2)), V.str (wat ws 1)]) htf)
      have z1 : Im K (upd H6 tf (.tup [V.str ("live" : Str), V.ref tw, V.ref ct, V.int (valN (wat ws 2)), V.str (wat ws 1)])) (.ref tf) (liveD x0 (rowsN x0 r0)) := by
        have hI7 := ims_mono (tupX_same s7) hI5
        have n1 : SqT K (upd H6 tf (.tup [V.str ("live" : Str), V.ref tw, V.ref ct, V.int (valN (wat ws 2)), V.str (wat ws 1)])) ct ((prts (wat ws 3)).map fun x => V.int (valN x)) := SqT.of (s7 _ _ hct5)
        have n2 : SqT K (upd H6 tf (.tup [V.str ("live" : Str), V.ref tw, V.ref ct, V.int (valN (wat ws 2)), V.str (wat ws 1)])) tk ks := SqT.of (same_upd htf _ _ htk6)
        have n3 : SqT K (upd H6 tf (.tup [V.str ("live" : Str), V.ref tw, V.ref ct, V.int (valN (wat ws 2)), V.str (wat ws 1)])) tw [V.ref tk, V.str (wat (wds last) 1)] := SqT.of (same_upd htf _ _ htw6)
        unfold liveD webD numsD
        rw [← hws, L.rows, List.dropLast_concat]
        have e5 : (front ++ [last]).getLastD Str.empty = last := by simp
        rw [e5]
        have nums : ∀ l : List Str, ImAll K (upd H6 tf (.tup [V.str ("live" : Str), V.ref tw, V.ref ct, V.int (valN (wat ws 2)), V.str (wat ws 1)])) (l.map fun x => V.int (valN x)) (l.map fun x => .int (valN x)) := fun l => by
          induction l with
          | nil => exact ims_nil
          | cons x r ih => exact ims_cons (im_int _) ih
        exact im_tup (SqT.of upd_same) (ims_cons (im_str _) (ims_cons (im_tup n3 (ims_cons (im_tup n2 hI7) (ims_cons (im_str _) ims_nil))) (ims_cons (im_tup n1 (nums _)) (ims_cons (im_int _) (ims_cons (im_str _) ims_nil)))))
      obtain ⟨H7, hH7⟩ : ∃ H7, H7 = upd H6 tf (.tup [V.str ("live" : Str), V.ref tw, V.ref ct, V.int (valN (wat ws 2)), V.str (wat ws 1)]) := ⟨_, rfl⟩
      rw [← hH7] at s7 z1 ⊢
      have s8 := s4.trans s7
      -- the whole
      refine ⟨_, rfl, by show 1 ≤ _; omega, fun t1 ht1 => ?_⟩
      have ha8 := same_upd (o := .tup [V.ref tf]) ht1 _ _ (s8 _ _ ha)
      refine ⟨_, rfl, _, rfl, _, rfl, a, vS (x0 :: r0), rfl, SqL.of ha8, fun ra hra => ?_⟩
      have hcut : cutV (vS (x0 :: r0)) (some (((manyN x0 : Nat) : Int) + 1)) none = vS (r0.drop (manyN x0)) := cut_from x0 r0 (manyN x0) hle
      refine ⟨ra, rfl, ⟨_, SqL.of upd_same⟩, fun D2 hD2 => ?_⟩
      rw [hcut] at hD2 ⊢
      refine lcw (walk_list (xs := vS (r0.drop (manyN x0)))) fram_same hD2 (by rw [List.length_map, List.length_drop]; omega) (fun H' r => SqL.of (r _ _ upd_same)) (fun i acc H => ImAll K H acc (((r0.drop (manyN x0)).take i).map fun y => evD (wds y))) (fun _ _ _ _ e h => ims_mono e h) ims_nil (fun i x acc H3 H4 hi r y hacI hacc => ?_) (fun H8 acc r8 hacc hacI => ?_)
      · obtain ⟨rfl, hy⟩ := y
        intro Zk Zs hkp _
        have hy2 : (r0.drop (manyN x0))[i]?.map V.str = some x := by simpa using hy
        obtain ⟨y, ey, rfl⟩ := Option.map_eq_some_iff.mp hy2
        have hym := List.mem_of_getElem? ey
        have hyt := (hk.ok y (List.mem_cons_of_mem _ (List.mem_of_mem_drop hym))).1
        refine ⟨rfl, yes_turn ⟨_, rfl, y, rfl, ⟨hyt.1, L.ev y hym⟩, fun r2 H9 q => hkp _ _ q.2 ?_⟩⟩
        rw [List.take_succ, ey, List.map_append]
        exact ims_app (ims_mono (tupX_same q.2) hacI) (ims_cons q.1 ims_nil)
      · rw [List.length_map, List.take_length] at hacI
        refine ⟨D2, acc, rfl, .inl ⟨SqL.of hacc, fun te hte => ?_⟩⟩
        have s9 : Same H7 (upd H8 te (.tup acc)) := (((same_upd ht1).trans (same_upd hra)).trans r8).trans (same_upd hte)
        have ht1e : (upd H8 te (.tup acc)) t1 = some (.tup [V.ref tf]) := same_upd hte _ _ (r8 _ _ (same_upd hra _ _ upd_same))
        refine ⟨t1, te, [V.ref tf], acc, rfl, rfl, SqT.of ht1e, SqT.of upd_same, ?_, fun pr Hr sr hpr => hQ _ _ ⟨?_, (s8.trans s9).trans sr⟩⟩
        · have h1 := ims_len hacI
          rw [List.length_map, List.length_drop] at h1
          show 1 + _ ≤ _
          omega
        · show Im K Hr (.ref pr) (.tuple (liveD x0 (rowsN x0 r0) :: (r0.drop (manyN x0)).map fun y => evD (wds y)))
          exact im_tup hpr (ims_cons (im_mono (tupX_same (s9.trans sr)) z1) (ims_mono ((tupX_new hte).trans (tupX_same sr)) hacI))
end
end Fl

-- KL6
/-! what the law awaits of a log -/
namespace Fl
open PySem PySem.Spec PyProof.Rows L2 TL RZ
/-- lines as the law makes them -/
structure LwOk (ls : List Str) : Prop where
  lns : LnsOk ls
  n : ls.length ≤ 90000
  ok : ∀ y ∈ ls, sok y
  few : ∀ y ∈ ls, ∀ x ∈ wds y, (prts x).length < 64
abbrev spLogDue (K : PySem.W.Frag) : Sp := Pr (fun q : Addr × List Str => [.ref q.1]) (fun q H => H q.1 = some (.lst (vS q.2)) ∧ LwOk q.2) (fun q H r H' => Im K H' r (dueD q.2) ∧ Same H H')
theorem starts_asker (z : Str) : Txt.startswith z "asker " = true ↔ wat (wds z) 0 = ("asker" : Str) ∧ 1 < (wds z).length := by
  have en : tl ("asker " : Str) = [97, 115, 107, 101, 114, 32] := by decide +kernel
  have en2 : tl ("asker" : Str) = [97, 115, 107, 101, 114] := by decide +kernel
  have h1 : Txt.startswith z "asker " = true ↔ pre (tl ("asker " : Str)) ((tl z).drop 0) = true := by
    rw [← at_iff (by rw [en]; simp) 0]
    show (decide _ && _) = true ↔ _
    rw [Bool.and_eq_true, decide_eq_true_eq]
    exact Iff.rfl
  rw [h1, en, List.drop_zero, more_words]
  have hw := wat_zero z
  constructor
  · intro h
    have e : (tl z).take 6 = [97, 115, 107, 101, 114, 32] := eq_of_beq h
    have e2 : tl z = [97, 115, 107, 101, 114, 32] ++ (tl z).drop 6 := by rw [← e, List.take_append_drop]
    constructor
    · refine ext_tl ?_
      rw [hw, en2, e2]
      simp
    · rw [e2]
      simp
  · rintro ⟨h2, h3⟩
    rw [h2, en2] at hw
    have e : tl z = (tl z).takeWhile (fun c => decide (c ≠ 32)) ++ (tl z).dropWhile (fun c => decide (c ≠ 32)) := (List.takeWhile_append_dropWhile).symm
    rw [← hw] at e
    cases hd : (tl z).dropWhile (fun c => decide (c ≠ 32)) with
    | nil =>
      rw [hd, List.append_nil] at e
      rw [e] at h3
      exact absurd h3 (by decide)
    | cons c r =>
      have hc : c = 32 := by
        have := List.head?_dropWhile_not (fun c => decide (c ≠ 32)) (tl z)
        rw [hd] at this
        simpa using this
      rw [hd, hc] at e
      rw [e]
      rfl
theorem starts_isAsk {z : Str} (h : lnSpot false (wds z) = none) : Txt.startswith z "asker " = isAsk (wds z) := by
  rw [Bool.eq_iff_iff, starts_asker]
  unfold isAsk
  rw [decide_eq_true_eq]
  refine ⟨fun q => q.1, fun q => ⟨q, ?_⟩⟩
  unfold lnSpot at h
  rw [if_neg Bool.false_ne_true, if_neg (by rw [q]; decide +kernel), if_pos q] at h
  exact in_range (spot_cons h).1 name_empty
section
variable {K : PySem.W.Frag} {H : Hp}
theorem fm_live {z : Str} (h1 : z.length ≤ 90000) (h2 : sok z) : FmOk liveForms z := ⟨by decide, by decide +kernel, h1, h2, fun h => absurd h (by decide +kernel)⟩
theorem fm_web {z : Str} (h1 : z.length ≤ 90000) (h2 : sok z) (h3 : ∀ y ∈ wds z, (prts y).length < 64) : FmOk webForms z := ⟨by decide, by decide +kernel, h1, h2, fun _ => h3⟩
theorem fm_ev {z : Str} (h1 : z.length ≤ 90000) (h2 : sok z) : FmOk evForms z := ⟨by decide, by decide +kernel, h1, h2, fun h => absurd h (by decide +kernel)⟩
theorem ovN_some (s : Nat) : decide (ovN (some s) = V.non) = false := rfl
end
section
variable {P : Program} {w : World} {K : PySem.W.Frag} {mg : Str → Option Value} {base : Heap}
theorem ok_law_log_due (T : Tx K mg) : OkF P w K mg base CX0 4 "_law_log_due" ["_law_lines_here"] (spLogDue K) := by
  have sc : FnScope ["_law_lines_here", "_law_spot_here", "_law_many", "_law_is_asked", "_law_end", "_law_k"] ["_law_lines_here"] (defScope (topS 61)) := ⟨rfl, rfl, rfl, by decide +kernel, rfl, by decide +kernel, by decide +kernel⟩
  refine okF T 45 61 rfl sc (fun _ _ _ _ _ _ us hl => match us, hl with | [_], _ => rfl) (fun vs H Q E ⟨_, e, _⟩ => by rw [e] <;> rfl) fun cdv A outer s H vs Q E hr ⟨⟨a, ls⟩, e, ⟨ha, hW⟩, hQ⟩ => ?_
  have e : vs = [V.ref a] := e
  subst e
  have hS : 200000 ≤ sizeLine := by rw [sizeLine_eq]; decide
  have ha : H a = some (.lst (vS ls)) := ha
  have hW : LwOk ls := hW
  have hQ : ∀ r H', Im K H' r (dueD ls) → Same H H' → Q r H' := fun r H' x y => hQ r H' ⟨x, y⟩
  have hret : ∀ (p : Nat × Nat) (H1 : Hp) (t : Addr) (v1 v2 : V), logF ls = some p → Same H H1 → H1 t = none → v1 = .int (p.1 : Nat) → v2 = .int (p.2 : Nat) → Q (.ref t) (upd H1 t (.tup [V.str "text", v1, v2])) := fun p H1 t v1 v2 h1 h2 h3 e1 e2 => by
    subst e1 e2
    refine hQ _ _ ?_ (h2.trans (same_upd h3))
    unfold dueD
    rw [h1]
    exact im_tup (SqT.of upd_same) (ims_cons (im_str _) (ims_cons (im_int _) (ims_cons (im_int _) ims_nil)))
  refine ⟨_, PSs.nox (pss_cons (ps_if (pt_cmpR (op_eqD hr.units) (pv 0) (pe_lst pa_nil) (nomark _)) (pss_one (ps_ret (pe_tup (pa_cons pe_str (pa_cons pe_int (pa_cons pe_int pa_nil)))))) pss_nil)
 (pss_cons (ps_set (i := 1) sc.nd rfl (Or.inl rfl) (pe_fn (ok_law_spot T) (hr.mono (by decide)) pass0 (pa_cons (pe_ix ix_list (pv 0) pe_int (fun _ _ => rfl)) (pa_cons (pe_lst (pa_cons (pe_tup (pa_cons pe_str (pa_cons pe_str (pa_cons pe_str (pa_cons pe_str (pa_cons pe_str pa_nil)))))) pa_nil)) pa_nil))))
 (pss_cons (ps_if (pt_cmpR op_notN (pv 1) pe_non (nomark _)) (pss_one (ps_ret (pe_tup (pa_cons pe_str (pa_cons pe_int (pa_cons (pv 1) pa_nil)))))) pss_nil)
 (pss_cons (ps_par (i := 2) (j := 3) (by rfl) sc.nd rfl rfl (by decide) rfl rfl (pa_cons (pe_callTy call_int_str rfl (T.bl (x := "int")) (by decide +kernel) (pa_cons (pe_ix ix_list (pe_split (pe_ix ix_list (pv 0) pe_int (fun _ _ => rfl)) pe_str) pe_int (fun _ _ => rfl)) pa_nil)) (pa_cons pe_bl pa_nil)) (by rfl))
 (pss_cons (ps_set (i := 4) sc.nd rfl (Or.inl rfl) (pe_op op_add pe_int (pe_callB (call_min2 rfl) rfl (T.bl (x := "min")) (by decide +kernel) (pa_cons (pv 2) (pa_cons (pe_op op_sub (pe_callB call_len rfl (T.bl (x := "len")) (by decide +kernel) (pa_cons (pv 0) pa_nil)) pe_int) pa_nil)))))
 (pss_cons (ps_for PassesOwn.never rfl (pi_range2 rfl (T.bl (x := "range")) (pa_cons pe_int (pa_cons (pv 4) pa_nil))) (pg_name (i := 5) sc.nd rfl (.inl rfl) (hf := .inr rfl)) (pss_cons (ps_set (i := 1) sc.nd rfl (Or.inl rfl) (pe_fn (ok_law_spot T) (hr.mono (by decide)) pass0 (pa_cons (pe_ix ix_list (pv 0) (pv 5) (fun _ _ => rfl)) (pa_cons (pe_lst (pa_cons (pe_tup (pa_cons pe_str (pa_cons pe_str (pa_cons pe_str (pa_cons pe_str (pa_cons pe_str pa_nil)))))) (pa_cons (pe_tup (pa_cons pe_str (pa_cons pe_str pa_nil))) pa_nil))) pa_nil))))
 (pss_cons (ps_set (i := 1) sc.nd rfl (Or.inl rfl) (pe_ifExp (pt_val (pv 3)) pe_int (pv 1)))
 (pss_cons (ps_if (pt_cmpR op_notN (pv 1) pe_non (nomark _)) (pss_one (ps_ret (pe_tup (pa_cons pe_str (pa_cons (pv 5) (pa_cons (pv 1) pa_nil)))))) pss_nil)
 (pss_one (ps_set (i := 3) sc.nd rfl (Or.inl rfl) (pe_m1 PySem.F.slot_str_startswith PySem.F.type_str_startswith mt_startswith (pe_ix ix_list (pv 0) (pv 5) (fun _ _ => rfl)) pe_str)))))))
 (pss_cons (ps_if (PW.pt (pw_or (pt_cmpR op_le (pe_callB call_len rfl (T.bl (x := "len")) (by decide +kernel) (pa_cons (pv 0) pa_nil)) (pv 2) (nomark _)) (pw_or1 (pt_not (pt_val (pv 3)))))) (pss_one (ps_ret (pe_tup (pa_cons pe_str (pa_cons (pv 4) (pa_cons pe_int pa_nil)))))) pss_nil)
 (pss_cons (ps_for PassesOwn.never rfl (pi_range2 rfl (T.bl (x := "range")) (pa_cons (pv 4) (pa_cons (pe_callB call_len rfl (T.bl (x := "len")) (by decide +kernel) (pa_cons (pv 0) pa_nil)) pa_nil))) (pg_name (i := 5) sc.nd rfl (.inl rfl) (hf := .inr rfl)) (pss_cons (ps_set (i := 1) sc.nd rfl (Or.inl rfl) (pe_fn (ok_law_spot T) (hr.mono (by decide)) pass0 (pa_cons (pe_ix ix_list (pv 0) (pv 5) (fun _ _ => rfl)) (pa_cons (pe_fn0 (ok_law_event_forms T) (hr.mono (by decide)) pass0) pa_nil))))
 (pss_one (ps_if (pt_cmpR op_notN (pv 1) pe_non (nomark _)) (pss_one (ps_ret (pe_tup (pa_cons pe_str (pa_cons (pv 5) (pa_cons (pv 1) pa_nil)))))) pss_nil))))
 (pss_one (ps_ret (pe_tup (pa_cons pe_str (pa_cons (pe_fn (ok_law_log_of T) (hr.mono (by decide)) pass0 (pa_cons (pv 0) (pa_cons (pv 4) pa_nil))) pa_nil))))))))))))), ?_⟩
  refine ⟨_, rfl, Nat.zero_le _, fun p hp => ⟨_, .list [], dp_list (SqL.of (same_upd hp _ _ ha)), .lst (SqL.of upd_same) .nil, shaped_texts hW.ok, rfl, _, rfl, ?_⟩⟩
  rw [eqv_nil]
  have s1 : Same H (upd H p (.lst [])) := same_upd hp
  cases ls with
  | nil => exact ite_t rfl ⟨by show 3 ≤ _; omega, fun t ht => hret (0, 0) _ t _ _ rfl s1 ht rfl rfl⟩
  | cons x0 r0 =>
    refine ite_f rfl ?_
    have hx0 := (hW.lns.ok x0 List.mem_cons_self).1
    have hx01 := hx0.1
    have hn1 := hW.n
    have hn : r0.length + 1 ≤ 90000 := hn1
    have hl8 : (vS (x0 :: r0)).length = r0.length + 1 := by simp
    -- the first line
    refine ⟨_, rfl, a, _, 0, .str x0, rfl, rfl, SqL.of (s1 _ _ ha), atI_nat (j := 0) rfl, by show 5 ≤ _; omega, fun t1 ht1 => ⟨by show 1 ≤ _; omega, fun f1 hf1 => ⟨(f1, x0, liveForms), rfl, ⟨⟨[V.ref t1], upd_same, ?_⟩, fm_live hx01 (hW.ok x0 List.mem_cons_self)⟩, fun r H2 q => ?_⟩⟩⟩
    · exact ims_cons (im_tup (SqT.of (same_upd hf1 _ _ upd_same)) (ims_strs ["live", "guard", "number", "numbers", "number"])) ims_nil
    obtain ⟨hr2, sx⟩ := q
    have s2 : Same H H2 := ((s1.trans (same_upd ht1)).trans (same_upd hf1)).trans sx
    have hr2 : r = ovN (spotL liveForms (wds x0)) := hr2
    rw [live_same] at hr2
    subst hr2
    dsimp only [gName]
    refine ⟨_, rfl, rfl, _, rfl, ?_⟩
    cases h0 : spotF liveC (wds x0) 0 with
    | some sp =>
      refine ite_t rfl ⟨_, rfl, by show 3 ≤ _; omega, fun t ht => hret (0, sp) _ t _ _ ?_ s2 ht rfl rfl⟩
      rw [logF_cons, h0]
    | none =>
      refine ite_f rfl ?_
      have hlog : logF (x0 :: r0) = match webF 0 false (rowsN x0 r0) with
        | some p => some (p.1 + 1, p.2)
        | none => if r0.length < manyN x0 then some (r0.length + 1, 0) else evF (manyN x0 + 1) (r0.drop (manyN x0)) := by rw [logF_cons, h0] <;> rfl
      obtain ⟨_, g1⟩ := spot_cons h0
      obtain ⟨_, g1⟩ := spot_cons g1
      obtain ⟨_, g1⟩ := spot_cons g1
      obtain ⟨_, g1⟩ := spot_cons g1
      obtain ⟨c4, _⟩ := spot_cons g1
      have l4 : 4 < (wds x0).length := in_range c4 num_empty
      -- many, the end
      refine ⟨_, rfl, a, _, 0, .str x0, rfl, rfl, SqL.of (s2 _ _ ha), atI_nat (j := 0) rfl, ⟨_, rfl⟩, _, _, rfl, rfl, spc_len, by omega, fun l hl => ⟨l, vS (wds x0), 4, .str (wat (wds x0) 4), rfl, rfl, SqL.of upd_same, at_of (j := 4) rfl (wat_at l4), _, _, rfl, (num_int c4).1, (num_int c4).2, _, _, rfl, ?_⟩⟩
      have s3 := s2.trans (same_upd (o := .lst ((Txt.split x0 spcS).map V.str)) hl)
      have hm : valN (wat (wds x0) 4) = ((manyN x0 : Nat) : Int) := rfl
      rw [hm]
      refine ⟨_, rfl, _, rfl, _, _, rfl, .inl ⟨_, SqL.of (s3 _ _ ha), rfl⟩, _, _, rfl, rfl, _, _, rfl, _, _, rfl, rfl, ?_⟩
      obtain ⟨rn, hrn⟩ : ∃ rn, rn = (rowsN x0 r0).length := ⟨_, rfl⟩
      have hrn2 : rn = min (manyN x0) r0.length := by rw [hrn]; unfold rowsN; rw [List.length_take]
      have hend : (1 : Int) + (if (((vS (x0 :: r0)).length : Nat) : Int) - 1 < ((manyN x0 : Nat) : Int) then (((vS (x0 :: r0)).length : Nat) : Int) - 1 else ((manyN x0 : Nat) : Int)) = ((rn + 1 : Nat) : Int) := by
        rw [hl8]
        split <;> omega
      show gName 4 (V.int (1 + (if (((vS (x0 :: r0)).length : Nat) : Int) - 1 < ((manyN x0 : Nat) : Int) then (((vS (x0 :: r0)).length : Nat) : Int) - 1 else ((manyN x0 : Nat) : Int)))) _ _ _
      rw [hend]
      dsimp only [gName]
      obtain ⟨H3, hH3⟩ : ∃ H3, H3 = upd H2 l (.lst ((Txt.split x0 spcS).map V.str)) := ⟨_, rfl⟩
      rw [← hH3] at s3 ⊢
      -- the web
      refine seq_cut (t := tFor _ _ _) (fun σ' H' => ∃ o1 b o5, σ' = [some (.ref a), some o1, some (.int ((manyN x0 : Nat) : Int)), some (.bl b), some (.int ((rn + 1 : Nat) : Int)), o5] ∧ Same H H' ∧ webF 0 false (rowsN x0 r0) = webF rn b []) (fun nx' hnx => ?_) ?_
      · refine ⟨_, rfl, 1, _, rfl, ⟨by decide, by decide, ?_, ?_⟩, ?_⟩
        · have h1 : (0 : Int) ≤ ((rn + 1 : Nat) : Int) := by omega
          exact Int.le_trans (by decide) h1
        · have h1 : ((rn + 1 : Nat) : Int) ≤ 100000 := by omega
          exact Int.lt_of_le_of_lt h1 (by decide)
        have ecnt : (((rn + 1 : Nat) : Int) - 1).toNat = rn := by omega
        rw [ecnt]
        refine for_it (walk_range (n := rn)) (fun i σ' H' => ∃ o1 b o5, σ' = [some (.ref a), some o1, some (.int ((manyN x0 : Nat) : Int)), some (.bl b), some (.int ((rn + 1 : Nat) : Int)), o5] ∧ Same H H' ∧ webF 0 false (rowsN x0 r0) = webF i b ((rowsN x0 r0).drop i))
          ⟨_, false, _, rfl, s3, rfl⟩ (fun _ _ _ _ _ => trivial) (fun i x σ' H' H4 hi hP y => ?_) (fun σ' H' hP => ?_)
        · obtain ⟨o1, b, o5, rfl, s4, hF⟩ := hP
          obtain ⟨rfl, rfl⟩ := y
          have hi2 : i < (rowsN x0 r0).length := by rw [← hrn]; exact hi
          obtain ⟨y, hy⟩ : ∃ y, (rowsN x0 r0)[i]? = some y := ⟨_, List.getElem?_eq_getElem hi2⟩
          have hdr : (rowsN x0 r0).drop i = y :: (rowsN x0 r0).drop (i + 1) := by
            rw [List.drop_eq_getElem_cons hi2]
            rw [List.getElem?_eq_getElem hi2] at hy
            rw [Option.some.inj hy]
          have hyr : r0[i]? = some y := by
            have h1 := hy
            unfold rowsN at h1
            rw [List.getElem?_take] at h1
            by_cases q : i < manyN x0
            · rw [if_pos q] at h1
              exact h1
            · rw [if_neg q] at h1
              cases h1
          have hat : (vS (x0 :: r0))[i + 1]? = some (V.str y) := by rw [List.getElem?_map, List.getElem?_cons_succ, hyr] <;> rfl
          have hym : y ∈ x0 :: r0 := List.mem_cons_of_mem _ (List.mem_of_getElem? hyr)
          have hyt := (hW.lns.ok y hym).1
          have ek : (1 : Int) + ((i : Nat) : Int) = ((i + 1 : Nat) : Int) := by omega
          show tSeq _ _ _ _ _
          refine ⟨_, rfl, _, rfl, a, _, _, .str y, rfl, rfl, SqL.of (s4 _ _ ha), at_of ek hat, by show 5 ≤ _; omega, fun t1 ht1 => ⟨by show 2 ≤ _; omega, fun t2 ht2 => ⟨by show 2 ≤ _; omega, fun f1 hf1 => ⟨(f1, y, webForms), rfl, ⟨⟨[V.ref t1, V.ref t2], upd_same, ?_⟩, fm_web hyt.1 (hW.ok y hym) (hW.few y hym)⟩, fun r H5 q => ?_⟩⟩⟩⟩
          · exact ims_cons (im_tup (SqT.of (same_upd hf1 _ _ (same_upd ht2 _ _ upd_same))) (ims_strs ["kind", "name", "fee", "has", "table"])) (ims_cons (im_tup (SqT.of (same_upd hf1 _ _ upd_same)) (ims_strs ["asker", "name"])) ims_nil)
          obtain ⟨hr5, sy⟩ := q
          have s5 : Same H H5 := (((s4.trans (same_upd ht1)).trans (same_upd ht2)).trans (same_upd hf1)).trans sy
          have hr5 : r = ovN (spotL webForms (wds y)) := hr5
          rw [web_same] at hr5
          subst hr5
          dsimp only [gName]
          refine seq_asg (fun v H6 => v = ovN (lnSpot b (wds y)) ∧ H6 = H5) (fun Q' hQ' => ?_) ?_
          · refine ⟨_, rfl, _, rfl, ?_⟩
            cases b with
            | true => exact ite_t rfl (hQ' _ _ ⟨rfl, rfl⟩)
            | false => exact ite_f rfl ⟨_, rfl, hQ' _ _ ⟨rfl, rfl⟩⟩
          rintro _ _ ⟨rfl, rfl⟩
          refine ⟨_, rfl, rfl, _, rfl, ?_⟩
          cases hs : lnSpot b (wds y) with
          | some sp =>
            refine ite_t rfl ⟨_, rfl, _, rfl, by show 3 ≤ _; omega, fun t ht => hret (i + 1, sp) _ t _ _ ?_ s5 ht (congrArg V.int ek) rfl⟩
            rw [hlog, hF, hdr, webF_cons, hs]
          | none =>
            refine ite_f rfl ?_
            have hb : b = false := by
              cases b with
              | false => rfl
              | true =>
                unfold lnSpot at hs
                rw [if_pos rfl] at hs
                cases hs
            subst hb
            refine ⟨_, rfl, _, rfl, a, _, _, .str y, rfl, rfl, SqL.of (s5 _ _ ha), at_of ek hat, ⟨_, rfl⟩, _, _, rfl, rfl, _, _, _, rfl, s5, ?_⟩
            rw [hF, hdr, webF_cons, hs, starts_isAsk hs]
        · obtain ⟨o1, b, o5, rfl, s4, hF⟩ := hP
          refine hnx _ _ ⟨o1, b, o5, rfl, s4, ?_⟩
          rw [hF, hrn, List.drop_length]
      · rintro _ H4 ⟨o1, b, o5, rfl, s4, hF⟩
        refine ⟨_, rfl, _, _, rfl, .inl ⟨_, SqL.of (s4 _ _ ha), rfl⟩, _, rfl, _, _, rfl, rfl, _, rfl, ?_⟩
        have fin : logF (x0 :: r0) = some (rn + 1, 0) → ∃ v, (some (V.int ((rn + 1 : Nat) : Int)) = some v) ∧ True := fun _ => ⟨_, rfl, trivial⟩
        by_cases hlt : r0.length < manyN x0
        · refine ite_t (decide_eq_true (by rw [hl8]; omega)) (iteT ⟨_, rfl, by show 3 ≤ _; omega, fun t ht => hret (rn + 1, 0) _ t _ _ ?_ s4 ht rfl rfl⟩)
          rw [hlog, hF]
          cases b with
          | true =>
            show (if r0.length < manyN x0 then some (r0.length + 1, 0) else _) = _
            rw [if_pos hlt, hrn2, Nat.min_eq_right (by omega)]
          | false => rfl
        · refine ite_f (decide_eq_false (by rw [hl8]; omega)) ⟨_, rfl, _, rfl, ?_⟩
          cases b with
          | false =>
            refine iteT ⟨_, rfl, by show 3 ≤ _; omega, fun t ht => hret (rn + 1, 0) _ t _ _ ?_ s4 ht rfl rfl⟩
            rw [hlog, hF]
            rfl
          | true =>
            have hF : webF 0 false (rowsN x0 r0) = none := hF
            rw [hF] at hlog
            have hlog : logF (x0 :: r0) = evF (manyN x0 + 1) (r0.drop (manyN x0)) := by
              rw [hlog]
              exact if_neg hlt
            have hrm : rn = manyN x0 := by rw [hrn2]; omega
            subst hrm
            refine iteF ?_
            dsimp only [tNext]
            -- the events
            refine seq_cut (t := tFor _ _ _) (fun σ' H' => ∃ o1 o5, σ' = [some (.ref a), some o1, some (.int ((manyN x0 : Nat) : Int)), some (.bl true), some (.int ((manyN x0 + 1 : Nat) : Int)), o5] ∧ Same H H' ∧ evF (manyN x0 + 1) (r0.drop (manyN x0)) = none) (fun nx' hnx => ?_) ?_
            · refine ⟨_, rfl, _, rfl, _, _, rfl, .inl ⟨_, SqL.of (s4 _ _ ha), rfl⟩, _, _, rfl, ⟨?_, ?_, ?_, ?_⟩, ?_⟩
              · have h1 : (0 : Int) ≤ ((manyN x0 + 1 : Nat) : Int) := by omega
                exact Int.le_trans (by decide) h1
              · have h1 : ((manyN x0 + 1 : Nat) : Int) ≤ 100000 := by omega
                exact Int.lt_of_le_of_lt h1 (by decide)
              · have h1 : (0 : Int) ≤ (((vS (x0 :: r0)).length : Nat) : Int) := by omega
                exact Int.le_trans (by decide) h1
              · have h1 : (((vS (x0 :: r0)).length : Nat) : Int) ≤ 100000 := by rw [hl8]; omega
                exact Int.lt_of_le_of_lt h1 (by decide)
              obtain ⟨cnt, hcnt⟩ : ∃ cnt, cnt = ((((vS (x0 :: r0)).length : Nat) : Int) - ((manyN x0 + 1 : Nat) : Int)).toNat := ⟨_, rfl⟩
              have hcnt2 : cnt = (r0.drop (manyN x0)).length := by
                rw [hcnt, hl8, List.length_drop]
                omega
              rw [← hcnt]
              refine for_it (walk_range (n := cnt)) (fun i σ' H' => ∃ o1 o5, σ' = [some (.ref a), some o1, some (.int ((manyN x0 : Nat) : Int)), some (.bl true), some (.int ((manyN x0 + 1 : Nat) : Int)), o5] ∧ Same H H' ∧ evF (manyN x0 + 1) (r0.drop (manyN x0)) = evF (manyN x0 + 1 + i) ((r0.drop (manyN x0)).drop i))
                ⟨_, _, rfl, s4, rfl⟩ (fun _ _ _ _ _ => trivial) (fun i x σ' H' H5 hi hP y => ?_) (fun σ' H' hP => ?_)
              · obtain ⟨o1, o5, rfl, s5, hE⟩ := hP
                obtain ⟨rfl, rfl⟩ := y
                have hi2 : i < (r0.drop (manyN x0)).length := by rw [← hcnt2]; exact hi
                obtain ⟨y, hy⟩ : ∃ y, (r0.drop (manyN x0))[i]? = some y := ⟨_, List.getElem?_eq_getElem hi2⟩
                have hdr : (r0.drop (manyN x0)).drop i = y :: (r0.drop (manyN x0)).drop (i + 1) := by
                  rw [List.drop_eq_getElem_cons hi2]
                  rw [List.getElem?_eq_getElem hi2] at hy
                  rw [Option.some.inj hy]
                have hat : (vS (x0 :: r0))[manyN x0 + 1 + i]? = some (V.str y) := by
                  have h1 : r0[manyN x0 + i]? = some y := by rw [List.getElem?_drop] at hy; exact hy
                  rw [List.getElem?_map, show manyN x0 + 1 + i = (manyN x0 + i) + 1 from by omega, List.getElem?_cons_succ, h1] <;> rfl
                have hym : y ∈ x0 :: r0 := List.mem_cons_of_mem _ (List.mem_of_mem_drop (List.mem_of_getElem? hy))
                have hyt := (hW.lns.ok y hym).1
                have ek : ((manyN x0 + 1 : Nat) : Int) + ((i : Nat) : Int) = ((manyN x0 + 1 + i : Nat) : Int) := by omega
                show tSeq _ _ _ _ _
                refine ⟨_, rfl, _, rfl, a, _, _, .str y, rfl, rfl, SqL.of (s5 _ _ ha), at_of ek hat, (), rfl, trivial, fun fr H6 q => ?_⟩
                obtain ⟨⟨f1, fvs, rfl, hf1, hfI⟩, s6⟩ := q
                refine ⟨(f1, y, evForms), rfl, ⟨⟨fvs, hf1, hfI⟩, fm_ev hyt.1 (hW.ok y hym)⟩, fun r H7 q => ?_⟩
                obtain ⟨hr7, s7⟩ := q
                have s8 := (s5.trans s6).trans s7
                have hr7 : r = ovN (spotL evForms (wds y)) := hr7
                rw [ev_same] at hr7
                subst hr7
                dsimp only [gName]
                refine ⟨_, rfl, rfl, _, rfl, ?_⟩
                cases hs : evSpot (wds y) with
                | some sp =>
                  refine ite_t rfl ⟨_, rfl, _, rfl, by show 3 ≤ _; omega, fun t ht => hret (manyN x0 + 1 + i, sp) _ t _ _ ?_ s8 ht (congrArg V.int ek) rfl⟩
                  rw [hlog, hE, hdr, evF_cons, hs]
                | none =>
                  refine ite_f rfl ⟨_, _, rfl, s8, ?_⟩
                  rw [hE, hdr, evF_cons, hs] <;> rfl
              · obtain ⟨o1, o5, rfl, s5, hE⟩ := hP
                refine hnx _ _ ⟨o1, o5, rfl, s5, ?_⟩
                rw [hE, hcnt2, List.drop_length] <;> rfl
            · rintro _ H5 ⟨o1, o5, rfl, s5, hE⟩
              rw [hE] at hlog
              refine ⟨_, rfl, _, rfl, (a, x0, r0), rfl, ⟨s5 _ _ ha, hW.lns, by show r0.length ≤ _; omega, hlog⟩, fun r H6 q => ⟨by show 2 ≤ _; omega, fun t ht => hQ _ _ ?_ ((s5.trans q.2).trans (same_upd ht))⟩⟩
              unfold dueD
              rw [hlog]
              exact im_tup (SqT.of upd_same) (ims_cons (im_str _) (ims_cons (im_mono (tupX_new ht) q.1) ims_nil))
end
end Fl

-- KD1
/-! the feed of numbers, draws -/
namespace Fl
open PySem PySem.Spec PyProof.Rows L2 TL RZ
abbrev fdK (c : Addr) (p q t : Int) : List (Key × V) := [(Sum.inr ("cells" : Str), .ref c), (Sum.inr ("place" : Str), .int p), (Sum.inr ("left" : Str), .int q), (Sum.inr ("turn" : Str), .int t)]
/-- the feed at d, its cells at c -/
def FeedC (H : Hp) (d c : Addr) : Prop := ∃ (ns : List Int) (p q t : Int), H d = some (.dK (fdK c p q t)) ∧ H c = some (.lst (ns.map V.int)) ∧ ns.length ≤ 1000
def Feed (H : Hp) (d : Addr) : Prop := ∃ c, FeedC H d c
/-- all but dicts stays, and the feed stays a feed -/
structure Fd (d : Addr) (H H' : Hp) : Prop where
  x : ExtD H H'
  f : ∀ c, FeedC H d c → FeedC H' d c
theorem Fd.feed {d : Addr} {H H' : Hp} (h : Fd d H H') (F : Feed H d) : Feed H' d := by
  obtain ⟨c, F⟩ := F
  exact ⟨c, h.f c F⟩
theorem feedC_same {H H' : Hp} {d c : Addr} (s : Same H H') (F : FeedC H d c) : FeedC H' d c := by
  obtain ⟨ns, p, q, t, h1, h2, h3⟩ := F
  exact ⟨ns, p, q, t, s _ _ h1, s _ _ h2, h3⟩
theorem Fd.same {d : Addr} {H H' : Hp} (s : Same H H') : Fd d H H' := ⟨.of s, fun _ => feedC_same s⟩
theorem Fd.refl (d : Addr) (H : Hp) : Fd d H H := Fd.same (Same.refl H)
theorem Fd.trans {d : Addr} {H H1 H2 : Hp} (a : Fd d H H1) (b : Fd d H1 H2) : Fd d H H2 := ⟨a.x.trans b.x, fun c h => b.f c (a.f c h)⟩
theorem Fd.new {d b : Addr} {H H' : Hp} {o : HO} (a : Fd d H H') (n : H b = none) : Fd d H (upd H' b o) := by
  refine ⟨fun e u h z => ?_, fun c F => ?_⟩
  · rw [upd_ne (ne_of_none h n)]
    exact a.x e u h z
  · obtain ⟨ns, p, q, t, h1, h2, _⟩ := id F
    obtain ⟨ns', p', q', t', g1, g2, g3⟩ := a.f c F
    exact ⟨ns', p', q', t', by rw [upd_ne (ne_of_none h1 n)]; exact g1, by rw [upd_ne (ne_of_none h2 n)]; exact g2, g3⟩
theorem fram_fd (d : Addr) : Fram (Fd d) := ⟨Fd.refl d, Fd.trans, fun r h => r.x _ _ h fun _ z => (nomatch z), fun n r => r.new n, fun r => tupX_extD r.x⟩
theorem Fd.lst {d b : Addr} {H H' : Hp} {l : List V} (r : Fd d H H') (h : H b = some (.lst l)) : H' b = some (.lst l) := r.x _ _ h fun _ z => (nomatch z)
theorem Fd.tx {d : Addr} {H H' : Hp} (r : Fd d H H') : TupX H H' := tupX_extD r.x
theorem Fd.seq {K : PySem.W.Frag} {d a : Addr} {H H' : Hp} {xs : List V} (r : Fd d H H') (h : SqL K H a xs) : SqL K H' a xs := by
  rcases h with (h | ⟨o, h⟩) | h
  · exact .inl (.inl (r.lst h))
  · exact .inl (.inr ⟨o, r.x _ _ h fun _ z => (nomatch z)⟩)
  · exact .inr h
theorem k12 : ¬ ((Sum.inr ("cells" : Str) : Key) = Sum.inr ("place" : Str)) := by decide +kernel
theorem k13 : ¬ ((Sum.inr ("cells" : Str) : Key) = Sum.inr ("left" : Str)) := by decide +kernel
theorem k14 : ¬ ((Sum.inr ("cells" : Str) : Key) = Sum.inr ("turn" : Str)) := by decide +kernel
theorem k23 : ¬ ((Sum.inr ("place" : Str) : Key) = Sum.inr ("left" : Str)) := by decide +kernel
theorem k24 : ¬ ((Sum.inr ("place" : Str) : Key) = Sum.inr ("turn" : Str)) := by decide +kernel
theorem k34 : ¬ ((Sum.inr ("left" : Str) : Key) = Sum.inr ("turn" : Str)) := by decide +kernel
theorem k32 : ¬ ((Sum.inr ("left" : Str) : Key) = Sum.inr ("place" : Str)) := by decide +kernel
theorem k42 : ¬ ((Sum.inr ("turn" : Str) : Key) = Sum.inr ("place" : Str)) := by decide +kernel
theorem k43 : ¬ ((Sum.inr ("turn" : Str) : Key) = Sum.inr ("left" : Str)) := by decide +kernel
section
variable {H : Hp} {d c : Addr} {p q t : Int}
theorem g_cells (h : H d = some (.dK (fdK c p q t))) : DGet H d (.str "cells") (some (.ref c)) := by
  have := DGet.k (k := Sum.inr ("cells" : Str)) h
  rw [valV_pos rfl] at this
  exact this
theorem g_place (h : H d = some (.dK (fdK c p q t))) : DGet H d (.str "place") (some (.int p)) := by
  have := DGet.k (k := Sum.inr ("place" : Str)) h
  rw [valV_neg k12, valV_pos rfl] at this
  exact this
theorem g_left (h : H d = some (.dK (fdK c p q t))) : DGet H d (.str "left") (some (.int q)) := by
  have := DGet.k (k := Sum.inr ("left" : Str)) h
  rw [valV_neg k13, valV_neg k23, valV_pos rfl] at this
  exact this
theorem g_turn (h : H d = some (.dK (fdK c p q t))) : DGet H d (.str "turn") (some (.int t)) := by
  have := DGet.k (k := Sum.inr ("turn" : Str)) h
  rw [valV_neg k14, valV_neg k24, valV_neg k34, valV_pos rfl] at this
  exact this
theorem few_fd : (fdK c p q t).length < sizeLine := by show 4 < _; rw [sizeLine_eq]; decide
theorem p_place (h : H d = some (.dK (fdK c p q t))) (v : Int) : DPut H d (.str "place") (.int v) (upd H d (.dK (fdK c v q t))) := by
  have := DPut.k (k := Sum.inr ("place" : Str)) (v := .int v) h few_fd
  have e : putK (fdK c p q t) (Sum.inr ("place" : Str)) (.int v) = fdK c v q t := by
    unfold putK fdK
    simp only [List.any_cons, decide_eq_false k12, decide_true, Bool.false_or, Bool.true_or, if_true, List.map_cons, List.map_nil, if_neg k12, if_neg k32, if_neg k42]
  rw [e] at this
  exact this
theorem p_left (h : H d = some (.dK (fdK c p q t))) (v : Int) : DPut H d (.str "left") (.int v) (upd H d (.dK (fdK c p v t))) := by
  have := DPut.k (k := Sum.inr ("left" : Str)) (v := .int v) h few_fd
  have e : putK (fdK c p q t) (Sum.inr ("left" : Str)) (.int v) = fdK c p v t := by
    unfold putK fdK
    simp only [List.any_cons, decide_eq_false k13, decide_eq_false k23, decide_true, Bool.false_or, Bool.true_or, if_true, List.map_cons, List.map_nil, if_neg k13, if_neg k23, if_neg k43]
  rw [e] at this
  exact this
theorem p_turn (h : H d = some (.dK (fdK c p q t))) (v : Int) : DPut H d (.str "turn") (.int v) (upd H d (.dK (fdK c p q v))) := by
  have := DPut.k (k := Sum.inr ("turn" : Str)) (v := .int v) h few_fd
  have e : putK (fdK c p q t) (Sum.inr ("turn" : Str)) (.int v) = fdK c p q v := by
    unfold putK fdK
    simp only [List.any_cons, List.any_nil, decide_eq_false k14, decide_eq_false k24, decide_eq_false k34, decide_true, Bool.false_or, Bool.true_or, if_true, List.map_cons, List.map_nil, if_neg k14, if_neg k24, if_neg k34]
  rw [e] at this
  exact this
theorem extD_put {kvs kvs' : List (Key × V)} (h : H d = some (.dK kvs)) : ExtD H (upd H d (.dK kvs')) := fun b o hb hn => by
  have n : b ≠ d := fun z => by
    rw [z, h] at hb
    exact hn kvs (Option.some.inj hb).symm
  rw [upd_ne n]
  exact hb
end
abbrev spFeed (K : PySem.W.Frag) : Sp := Pr (fun q : Addr × List Int => [.ref q.1]) (fun q H => SqL K H q.1 (q.2.map V.int)) (fun q H r H' => (∃ d, r = .ref d ∧ Feed H' d) ∧ Same H H')
abbrev spDraw : Sp := Pr (fun q : Addr × Nat => [.ref q.1, .int (q.2 : Nat)]) (fun q H => Feed H q.1 ∧ 1 ≤ q.2 ∧ q.2 ≤ 100000) (fun q H r H' => (∃ k : Nat, k < q.2 ∧ r = .int (k : Nat)) ∧ Fd q.1 H H')
abbrev spAny (K : PySem.W.Frag) : Sp := Pr (fun q : Addr × Addr × List V => [.ref q.1, .ref q.2.1]) (fun q H => Feed H q.1 ∧ SqL K H q.2.1 q.2.2 ∧ 1 ≤ q.2.2.length ∧ q.2.2.length ≤ 100000) (fun q H r H' => r ∈ q.2.2 ∧ Fd q.1 H H')
theorem mod_range (a : Int) {m : Nat} (hm : 1 ≤ m) : ∃ k : Nat, k < m ∧ V.int (a.fmod (m : Nat)) = V.int (k : Nat) := by
  have e : a.fmod (m : Nat) = a % (m : Nat) := Int.fmod_eq_emod_of_nonneg a (by omega)
  have h0 : 0 ≤ a % (m : Nat) := Int.emod_nonneg a (by omega)
  have h1 : a % (m : Nat) < (m : Nat) := Int.emod_lt_of_pos a (by omega)
  exact ⟨(a % (m : Nat)).toNat, by omega, by rw [e, Int.toNat_of_nonneg h0]⟩
theorem lay_ints : ∀ ns : List Int, PyData.canLayAll0 (ns.map .int) = true
  | [] => rfl
  | x :: r => by
    rw [List.map_cons, PyData.canLayAll0, lay_ints r]
    rfl
theorem shaped_ints (ns : List Int) : SeqAt.shaped (.list (ns.map .int)) = true := by
  unfold SeqAt.shaped
  have h : PyData.depthAll (ns.map .int) ≤ 0 := PySem.W.depthAll_map (α := Int) ns
  rw [PyData.canLay0, lay_ints ns, PyData.depth, decide_eq_true (by omega)]
  rfl
theorem dp_ints {K : PySem.W.Frag} {H : Hp} : ∀ ns : List Int, DpAll K H (ns.map V.int) (ns.map .int)
  | [] => .nil
  | x :: r => .cons (.int x) (dp_ints r)
section
variable {P : Program} {w : World} {K : PySem.W.Frag} {mg : Str → Option Value} {base : Heap}
theorem ok_law_feed (T : Tx K mg) : OkF P w K mg base CX0 1 "_law_feed" ["_law_script"] (spFeed K) := by
  have sc : FnScope ["_law_script"] ["_law_script"] (defScope (topS 42)) := ⟨rfl, rfl, rfl, by decide +kernel, rfl, by decide +kernel, by decide +kernel⟩
  refine okF T 26 42 rfl sc (fun _ _ _ _ _ _ us hl => match us, hl with | [_], _ => rfl) (fun vs H Q E ⟨_, e, _⟩ => by rw [e] <;> rfl) fun cdv A outer s H vs Q E hr ⟨⟨a, ns⟩, e, ha, hQ⟩ => ?_
  have e : vs = [V.ref a] := e
  subst e
  refine ⟨_, PSs.nox (pss_one (ps_ret (pe_disp (pps_cons pe_str (pe_callTy call_list_of rfl (T.bl (x := "list")) (by decide +kernel) (pa_cons (pe_slice sl_list (pv 0) po_none (po_some pe_int)) pa_nil)) (pps_cons pe_str pe_int (pps_cons pe_str pe_int (pps_cons pe_str pe_int pps_nil)))) (by rfl) (by rfl) (fun z => by cases z) (by decide)))), ?_⟩
  refine fun p hp => ?_
  have s1 : Same H (upd H p (.dK [])) := same_upd hp
  refine ⟨_, rfl, 63, rfl, a, _, rfl, s1.seq ha, fun b hb => ⟨b, _, rfl, .inl (SqL.of upd_same), fun c hc => ?_⟩⟩
  have npc : p ≠ c := ne_of_none (same_upd hb _ _ upd_same) hc
  refine ⟨same_upd hc _ _ (same_upd hb _ _ upd_same), fdK c 0 0 0, rfl, by show 4 ≤ 15; decide, ?_⟩
  have em : mergeK [] (fdK c 0 0 0) = fdK c 0 0 0 := by
    unfold mergeK fdK
    simp only [List.foldl_cons, List.foldl_nil, putK, List.any_nil, Bool.false_eq_true, if_false, List.nil_append, List.any_cons, Bool.or_false, decide_eq_false k12, decide_eq_false k13, decide_eq_false k14, decide_eq_false k23, decide_eq_false k24, decide_eq_false k34, List.cons_append]
  rw [em]
  have hcut : ∃ ms : List Int, cutV (ns.map V.int) none (some 63) = ms.map V.int ∧ ms.length ≤ 1000 := by
    refine ⟨(ns.drop 0).take (HT.sIx (ns.map V.int).length (ns.map V.int).length (some 63) - HT.sIx (ns.map V.int).length 0 none), ?_, ?_⟩
    · unfold cutV
      rw [HT.sIx_none, List.drop_zero, List.drop_zero, List.map_take]
    · rw [List.length_take, HT.sIx_none, show ((63 : Int)) = ((63 : Nat) : Int) from rfl, HT.sIx_nat]
      omega
  obtain ⟨ms, hms, hlen⟩ := hcut
  refine hQ _ _ ⟨⟨p, rfl, c, ms, 0, 0, 0, upd_same, ?_, hlen⟩, fun x o h => ?_⟩
  · rw [upd_ne (Ne.symm npc), upd_same, hms]
  · rw [upd_ne (ne_of_none h hp)]
    exact same_upd hc _ _ (same_upd hb _ _ (s1 _ _ h))
theorem ok_law_draw (T : Tx K mg) : OkF P w K mg base CX0 1 "_law_draw" ["_law_feed_here", "_law_many"] spDraw := by
  have sc : FnScope ["_law_feed_here", "_law_many", "_law_digit", "_law_cells", "_law_place", "_law_cell", "_law_mixed"] ["_law_feed_here", "_law_many"] (defScope (topS 43)) := ⟨rfl, rfl, rfl, by decide +kernel, rfl, by decide +kernel, by decide +kernel⟩
  refine okF T 27 43 rfl sc (fun _ _ _ _ _ _ us hl => match us, hl with | [_, _], _ => rfl) (fun vs H Q E ⟨_, e, _⟩ => by rw [e] <;> rfl) fun cdv A outer s H vs Q E hr ⟨⟨d, m⟩, e, ⟨hF, h1, h2⟩, hQ⟩ => ?_
  have e : vs = [V.ref d, V.int (m : Nat)] := e
  subst e
  have h1 : 1 ≤ m := h1
  have h2 : m ≤ 100000 := h2
  have hF : Feed H d := hF
  obtain ⟨c, ns, p, q, t, hd, hc, hn⟩ := hF
  have hu := hu_of hr
  have ncd : c ≠ d := ne_of hc hd (by intro z; cases z)
  refine ⟨_, PSs.nox (pss_cons (ps_dput hu (pv 0) pe_str (pe_op op_add (pe_dget hu (pv 0) pe_str (fun _ _ => rfl)) pe_int) rfl)
 (pss_cons (ps_if (pt_cmpR op_gt (pe_dget hu (pv 0) pe_str (fun _ _ => rfl)) pe_int (nomark _)) (pss_cons (ps_set (i := 2) sc.nd rfl (Or.inl rfl) (pe_op op_modN (pe_callTy call_int1 rfl (T.bl (x := "int")) (by decide +kernel) (pa_cons (pe_dget hu (pv 0) pe_str (fun _ _ => rfl)) pa_nil)) (pv 1)))
 (pss_cons (ps_dput hu (pv 0) pe_str (pe_op op_fdivN (pe_dget hu (pv 0) pe_str (fun _ _ => rfl)) (pv 1)) rfl)
 (pss_one (ps_ret (pv 2))))) pss_nil)
 (pss_cons (ps_par (i := 3) (j := 4) (by rfl) sc.nd rfl rfl (by decide) rfl rfl (pa_cons (pe_dget hu (pv 0) pe_str (fun _ _ => rfl)) (pa_cons (pe_dget hu (pv 0) pe_str (fun _ _ => rfl)) pa_nil)) (by rfl))
 (pss_cons (ps_dput hu (pv 0) pe_str (pe_op op_add (pv 4) pe_int) rfl)
 (pss_cons (ps_set (i := 5) sc.nd rfl (Or.inl rfl) (pe_ifExp (pt_cmpR (op_neD hr.units) (pv 3) (pe_lst pa_nil) (nomark _)) (pe_ix ix_list (pv 3) (pe_op op_modN (pe_callTy call_int1 rfl (T.bl (x := "int")) (by decide +kernel) (pa_cons (pv 4) pa_nil)) (pe_callB call_len rfl (T.bl (x := "len")) (by decide +kernel) (pa_cons (pv 3) pa_nil))) (fun _ _ => rfl)) pe_int))
 (pss_cons (ps_if (PW.pt (pw_and (pt_cmpR op_ge (pv 5) (pe_op op_pow pe_int pe_int) (nomark _)) (pw_and1 (pt_cmpR op_lt (pv 4) (pe_callB call_len rfl (T.bl (x := "len")) (by decide +kernel) (pa_cons (pv 3) pa_nil)) (nomark _))))) (pss_cons (ps_dput hu (pv 0) pe_str (pe_op op_fdivN (pv 5) (pv 1)) rfl)
 (pss_one (ps_ret (pe_op op_modN (pe_callTy call_int1 rfl (T.bl (x := "int")) (by decide +kernel) (pa_cons (pv 5) pa_nil)) (pv 1))))) pss_nil)
 (pss_cons (ps_set (i := 6) sc.nd rfl (Or.inl rfl) (pe_op op_modN (pe_callTy call_int1 rfl (T.bl (x := "int")) (by decide +kernel) (pa_cons (pe_op op_add (pe_op op_add (pe_op op_modN (pe_callTy call_int1 rfl (T.bl (x := "int")) (by decide +kernel) (pa_cons (pv 5) pa_nil)) pe_int) (pe_op op_mul pe_int (pe_dget hu (pv 0) pe_str (fun _ _ => rfl)))) pe_int) pa_nil)) pe_int))
 (pss_cons (ps_set (i := 6) sc.nd rfl (Or.inl rfl) (pe_op op_modN (pe_callTy call_int1 rfl (T.bl (x := "int")) (by decide +kernel) (pa_cons (pe_op op_add (pe_op op_add (pe_op op_mul (pv 6) (pv 6)) (pe_op op_mul pe_int (pe_dget hu (pv 0) pe_str (fun _ _ => rfl)))) pe_int) pa_nil)) pe_int))
 (pss_one (ps_ret (pe_op op_modN (pe_callTy call_int1 rfl (T.bl (x := "int")) (by decide +kernel) (pa_cons (pe_op op_fdivN (pe_op op_modN (pe_callTy call_int1 rfl (T.bl (x := "int")) (by decide +kernel) (pa_cons (pe_op op_add (pe_op op_mul (pv 6) (pv 6)) (pe_op op_mul pe_int (pv 6))) pa_nil)) pe_int) pe_int) pa_nil)) (pv 1)))))))))))), ?_⟩
  have m0 : ((m : Nat) : Int) ≠ 0 := by omega
  have mf : ((m : Nat) : Int) ≠ 0 ∧ ((m : Nat) : Int).natAbs < 1073741824 := ⟨m0, by omega⟩
  have fin : ∀ (H1 : Hp) (p' q' t' x : Int), H1 d = some (.dK (fdK c p' q' t')) → H1 c = some (.lst (ns.map V.int)) → ExtD H H1 → Q (.int (x.fmod (m : Nat))) H1 := fun H1 p' q' t' x a1 a2 a3 => hQ _ _ ⟨mod_range x h1, a3, fun c' F' => by
    obtain ⟨_, _, _, _, g1, _⟩ := F'
    rw [hd] at g1
    have e1 : fdK c p q t = fdK c' _ _ _ := HO.dK.inj (Option.some.inj g1)
    have e2 : c = c' := by
      have := (List.cons.inj e1).1
      exact V.ref.inj (Prod.mk.inj this).2
    subst e2
    exact ⟨ns, p', q', t', a1, a2, hn⟩⟩
  -- turn
  refine ⟨_, rfl, d, _, rfl, g_turn hd, _, _, rfl, rfl, _, rfl, d, _, rfl, p_turn hd _, ?_⟩
  have hd1 : (upd H d (.dK (fdK c p q (t + 1)))) d = some (.dK (fdK c p q (t + 1))) := upd_same
  have hc1 : (upd H d (.dK (fdK c p q (t + 1)))) c = some (.lst (ns.map V.int)) := by rw [upd_ne ncd]; exact hc
  have x1 : ExtD H (upd H d (.dK (fdK c p q (t + 1)))) := extD_put hd
  obtain ⟨H1, hH1⟩ : ∃ H1, H1 = upd H d (.dK (fdK c p q (t + 1))) := ⟨_, rfl⟩
  rw [← hH1] at hd1 hc1 x1 ⊢
  -- what is left
  refine ⟨_, rfl, d, _, rfl, g_left hd1, _, _, rfl, rfl, _, rfl, ?_⟩
  by_cases hq : 0 < q
  · refine ite_t (decide_eq_true hq) ⟨_, rfl, d, _, rfl, g_left hd1, .inl ⟨_, rfl, _, rfl, _, _, rfl, rfl, m0, ?_⟩⟩
    refine ⟨_, rfl, d, _, rfl, g_left hd1, _, rfl, _, _, rfl, rfl, mf, _, rfl, d, _, rfl, p_left hd1 _, _, rfl, ?_⟩
    exact fin _ p _ (t + 1) q upd_same (by rw [upd_ne ncd]; exact hc1) (x1.trans (extD_put hd1))
  refine ite_f (decide_eq_false hq) ?_
  refine ⟨_, rfl, d, _, rfl, g_cells hd1, _, rfl, d, _, rfl, g_place hd1, _, _, rfl, ?_⟩
  refine ⟨_, rfl, _, _, rfl, rfl, _, rfl, d, _, rfl, p_place hd1 _, ?_⟩
  have hd2 : (upd H1 d (.dK (fdK c (p + 1) q (t + 1)))) d = some (.dK (fdK c (p + 1) q (t + 1))) := upd_same
  have hc2 : (upd H1 d (.dK (fdK c (p + 1) q (t + 1)))) c = some (.lst (ns.map V.int)) := by rw [upd_ne ncd]; exact hc1
  have x2 : ExtD H (upd H1 d (.dK (fdK c (p + 1) q (t + 1)))) := x1.trans (extD_put hd1)
  obtain ⟨H2, hH2⟩ : ∃ H2, H2 = upd H1 d (.dK (fdK c (p + 1) q (t + 1))) := ⟨_, rfl⟩
  rw [← hH2] at hd2 hc2 x2 ⊢
  -- the cell
  dsimp only
  refine seq_asg (fun v H3 => (∃ x, v = .int x) ∧ Same H2 H3) (fun Q' hQ' => ?_) ?_
  · refine ⟨_, rfl, Nat.zero_le _, fun l hl => ⟨.list (ns.map .int), .list [], .lst (SqL.of (same_upd hl _ _ hc2)) (dp_ints ns), .lst (SqL.of upd_same) .nil, shaped_ints ns, rfl, _, rfl, ?_⟩⟩
    rw [eqv_nil]
    cases ns with
    | nil => exact ite_f rfl (hQ' _ _ ⟨⟨_, rfl⟩, same_upd hl⟩)
    | cons n0 nr =>
      refine ite_t rfl ⟨_, rfl, _, rfl, .inl ⟨_, rfl, _, rfl, _, _, rfl, .inl ⟨_, SqL.of (same_upd hl _ _ hc2), rfl⟩, _, _, rfl, rfl, ?_, ?_⟩⟩
      · show (((n0 :: nr).map V.int).length : Int) ≠ 0
        simp
        omega
      · obtain ⟨k, hk, ek⟩ := mod_range p (m := ((n0 :: nr).map V.int).length) (by simp)
        have ek2 := V.int.inj ek
        have hk2 : k < (n0 :: nr).length := by rw [List.length_map] at hk; exact hk
        refine ⟨c, _, _, .int ((n0 :: nr)[k]), rfl, rfl, SqL.of (same_upd hl _ _ hc2), at_of ek2 ?_, hQ' _ _ ⟨⟨_, rfl⟩, same_upd hl⟩⟩
        rw [List.getElem?_map, List.getElem?_eq_getElem hk2] <;> rfl
  rintro _ H3 ⟨⟨x, rfl⟩, s3⟩
  have hd3 := s3 _ _ hd2
  have hc3 := s3 _ _ hc2
  have x3 : ExtD H H3 := x2.trans (.of s3)
  -- a great cell
  refine seq_cut (t := tIfS _ _ _) (fun σ' H' => σ' = [some (V.ref d), some (V.int (m : Nat)), none, some (V.ref c), some (V.int p), some (V.int x), none] ∧ H' = H3) (fun nx' hnx => ?_) ?_
  · refine ⟨_, rfl, _, _, rfl, rfl, ⟨by decide, by decide, by decide⟩, _, _, rfl, rfl, _, rfl, ?_⟩
    refine ite2 (fun hb => ?_) (fun hb => hnx _ _ ⟨rfl, rfl⟩)
    refine ⟨_, rfl, _, rfl, _, _, rfl, .inl ⟨_, SqL.of hc3, rfl⟩, _, _, rfl, rfl, _, rfl, ?_⟩
    refine ite2 (fun hp => ?_) (fun hp => hnx _ _ ⟨rfl, rfl⟩)
    refine ⟨_, rfl, _, rfl, _, _, rfl, rfl, mf, _, rfl, d, _, rfl, p_left hd3 _, _, rfl, .inl ⟨_, rfl, _, rfl, _, _, rfl, rfl, m0, ?_⟩⟩
    exact fin _ (p + 1) _ (t + 1) x upd_same (by rw [upd_ne ncd]; exact hc3) (x3.trans (extD_put hd3))
  rintro _ H4 ⟨rfl, e4⟩
  rw [e4]
  -- mixed
  refine seq_asg (fun v H4 => (∃ k : Nat, k < 2147483249 ∧ v = .int (k : Nat)) ∧ H4 = H3) (fun Q' hQ' => ?_) ?_
  · refine ⟨_, rfl, .inl ⟨_, rfl, _, _, rfl, rfl, (show (1000000349 : Int) ≠ 0 by decide), _, rfl, d, _, rfl, g_turn hd3, _, _, rfl, rfl, .inl ⟨by decide, by decide⟩, _, _, rfl, rfl, _, _, rfl, rfl, .inl ⟨_, rfl, _, _, rfl, rfl, (show (2147483249 : Int) ≠ 0 by decide), ?_⟩⟩⟩
    exact hQ' _ _ ⟨mod_range _ (m := 2147483249) (by decide), rfl⟩
  rintro _ H4 ⟨⟨k1, hk1, rfl⟩, e4⟩
  rw [e4]
  have b1 : (-(2 ^ 64 : Int)) < ((k1 : Nat) : Int) ∧ ((k1 : Nat) : Int) < 2 ^ 64 := ⟨Int.lt_of_lt_of_le (by decide) (show (0 : Int) ≤ _ by omega), Int.lt_trans (show ((k1 : Nat) : Int) < 2147483249 by omega) (by decide)⟩
  refine seq_asg (fun v H4 => (∃ k : Nat, k < 2147483137 ∧ v = .int (k : Nat)) ∧ H4 = H3) (fun Q' hQ' => ?_) ?_
  · refine ⟨_, rfl, _, rfl, _, _, rfl, rfl, .inl b1, _, rfl, d, _, rfl, g_turn hd3, _, _, rfl, rfl, .inl ⟨by decide, by decide⟩, _, _, rfl, rfl, _, _, rfl, rfl, .inl ⟨_, rfl, _, _, rfl, rfl, (show (2147483137 : Int) ≠ 0 by decide), ?_⟩⟩
    exact hQ' _ _ ⟨mod_range _ (m := 2147483137) (by decide), rfl⟩
  rintro _ H4 ⟨⟨k2, hk2, rfl⟩, e4⟩
  rw [e4]
  have b2 : (-(2 ^ 64 : Int)) < ((k2 : Nat) : Int) ∧ ((k2 : Nat) : Int) < 2 ^ 64 := ⟨Int.lt_of_lt_of_le (by decide) (show (0 : Int) ≤ _ by omega), Int.lt_trans (show ((k2 : Nat) : Int) < 2147483249 by omega) (by decide)⟩
  refine ⟨_, rfl, _, rfl, _, _, rfl, rfl, .inl b2, _, rfl, _, _, rfl, rfl, .inl ⟨by decide, by decide⟩, _, _, rfl, rfl, .inl ⟨_, rfl, _, _, rfl, rfl, (show (2147483647 : Int) ≠ 0 by decide), _, _, rfl, rfl, (show (16 : Int) ≠ 0 ∧ (16 : Int).natAbs < 1073741824 by decide), .inl ⟨_, rfl, _, rfl, _, _, rfl, rfl, m0, ?_⟩⟩⟩
  exact fin _ (p + 1) q (t + 1) _ hd3 hc3 x3
theorem ok_law_any (T : Tx K mg) : OkF P w K mg base CX0 2 "_law_any" ["_law_feed_here", "_law_some"] (spAny K) := by
  have sc : FnScope ["_law_feed_here", "_law_some"] ["_law_feed_here", "_law_some"] (defScope (topS 44)) := ⟨rfl, rfl, rfl, by decide +kernel, rfl, by decide +kernel, by decide +kernel⟩
  refine okF T 28 44 rfl sc (fun _ _ _ _ _ _ us hl => match us, hl with | [_, _], _ => rfl) (fun vs H Q E ⟨_, e, _⟩ => by rw [e] <;> rfl) fun cdv A outer s H vs Q E hr ⟨⟨d, a, xs⟩, e, ⟨hF, ha, h1, h2⟩, hQ⟩ => ?_
  have e : vs = [V.ref d, V.ref a] := e
  subst e
  refine ⟨_, PSs.nox (pss_one (ps_ret (pe_ix ix_list (pv 1) (pe_fn (ok_law_draw T) (hr.mono (by decide)) pass0 (pa_cons (pv 0) (pa_cons (pe_callB call_len rfl (T.bl (x := "len")) (by decide +kernel) (pa_cons (pv 1) pa_nil)) pa_nil))) (fun _ _ => rfl)))), ?_⟩
  refine ⟨_, rfl, _, rfl, _, rfl, _, _, rfl, .inl ⟨_, ha, rfl⟩, (d, xs.length), rfl, ⟨hF, h1, h2⟩, fun r H1 q => ?_⟩
  obtain ⟨⟨k, hk, rfl⟩, x1⟩ := q
  have hk : k < xs.length := hk
  exact ⟨a, xs, _, xs[k], rfl, rfl, x1.seq ha, atI_nat (List.getElem?_eq_getElem hk), hQ _ _ ⟨List.getElem_mem hk, x1⟩⟩
end
end Fl

-- KD2
/-! words and lines as the law makes them -/
namespace Fl
open PySem PySem.Spec PyProof.Rows L2 TL RZ
/-! ### words, lines -/
def wOk (z : Str) : Prop := z.length ≤ 61 ∧ ∀ c ∈ tl z, c < 128 ∧ c ≠ 32 ∧ c ≠ 10
instance (z : Str) : Decidable (wOk z) := inferInstanceAs (Decidable (_ ∧ _))
structure lOk (n : Nat) (z : Str) : Prop where
  n : (wds z).length ≤ n
  w : ∀ y ∈ wds z, wOk y
theorem lOk.mono {n m : Nat} {z : Str} (h : lOk n z) (q : n ≤ m) : lOk m z := ⟨Nat.le_trans h.n q, h.w⟩
theorem wOk_empty : wOk Str.empty := by decide +kernel
theorem wds_join {ws : List Str} (h : ∀ y ∈ ws, wOk y) (hn : ws ≠ []) : wds (Txt.join spcS ws) = ws :=
  split_join (s := 32) (S := []) (by decide +kernel) (by decide +kernel) hn fun y hy q => ((h y hy).2 32 q).2.1 rfl
theorem lOk_join {ws : List Str} {n : Nat} (h : ∀ y ∈ ws, wOk y) (hl : ws.length ≤ n) (h1 : 1 ≤ n) : lOk n (Txt.join spcS ws) := by
  by_cases hn : ws = []
  · rw [hn]
    have e : wds (Txt.join spcS []) = [Str.empty] := by decide +kernel
    refine ⟨by rw [e]; exact h1, fun y hy => ?_⟩
    rw [e] at hy
    rw [List.mem_singleton.mp hy]
    exact wOk_empty
  · have e := wds_join h hn
    exact ⟨by rw [e]; exact hl, fun y hy => h y (by rw [e] at hy; exact hy)⟩
theorem joinL_spl : ∀ (l acc : List Nat), joinL [32] (spl [32] 0 acc l) = acc ++ l
  | [], acc => by rw [spl_nil]; simp [joinL]
  | c :: r, acc => by
    by_cases h : c = 32
    · subst h
      have hp : pre [32] (32 :: r) = true := by simp [pre]
      rw [spl_hit hp]
      have ih := joinL_spl r []
      have hne := spl_ne [32] r 0 []
      cases hs : spl [32] 0 [] r with
      | nil => exact absurd hs hne
      | cons x xs =>
        rw [hs] at ih
        show acc ++ ([32] ++ joinL [32] (x :: xs)) = _
        rw [ih]
        rfl
    · have hp : pre [32] (c :: r) = false := by simp [pre]; exact h
      rw [spl_miss hp, joinL_spl r (acc ++ [c]), List.append_assoc]
      rfl
theorem tl_wds (z : Str) : tl z = joinL [32] ((wds z).map tl) := by
  have e := split_tl z (y := spcS) (s := 32) (S := []) (by decide +kernel) (by decide +kernel)
  have e2 : (wds z).map tl = spl [32] 0 [] (tl z) := e
  rw [e2, joinL_spl, List.nil_append]
theorem joinL_mem {c : Nat} : ∀ (parts : List (List Nat)), c ∈ joinL [32] parts → c = 32 ∨ ∃ p ∈ parts, c ∈ p
  | [], h => by cases h
  | [p], h => .inr ⟨p, List.mem_cons_self, h⟩
  | p :: q :: r, h => by
    have h2 : c ∈ p ++ ([32] ++ joinL [32] (q :: r)) := h
    simp only [List.mem_append, List.mem_singleton] at h2
    rcases h2 with h2 | h2 | h2
    · exact .inr ⟨p, List.mem_cons_self, h2⟩
    · exact .inl h2
    · rcases joinL_mem (q :: r) h2 with h3 | ⟨x, hx, hc⟩
      · exact .inl h3
      · exact .inr ⟨x, List.mem_cons_of_mem _ hx, hc⟩
theorem joinL_bound {m : Nat} : ∀ (parts : List (List Nat)), (∀ p ∈ parts, p.length ≤ m) → (joinL [32] parts).length ≤ parts.length * (m + 1)
  | [], _ => by simp [joinL]
  | [p], h => by
    have := h p List.mem_cons_self
    simp only [joinL, List.length_singleton]
    omega
  | p :: q :: r, h => by
    have h1 := h p List.mem_cons_self
    have h2 := joinL_bound (q :: r) fun x hx => h x (List.mem_cons_of_mem _ hx)
    show (p ++ ([32] ++ joinL [32] (q :: r))).length ≤ _
    simp only [List.length_append, List.length_cons, List.length_nil, Nat.add_mul] at h2 ⊢
    omega
theorem lOk.len {n : Nat} {z : Str} (h : lOk n z) : z.length ≤ n * 62 := by
  rw [len_tl, tl_wds]
  have h1 := joinL_bound (m := 61) ((wds z).map tl) fun p hp => by
    obtain ⟨y, hy, rfl⟩ := List.mem_map.mp hp
    rw [← len_tl]
    exact (h.w y hy).1
  rw [List.length_map] at h1
  exact Nat.le_trans h1 (Nat.mul_le_mul_right 62 h.n)
theorem lOk.sign {n : Nat} {z : Str} (h : lOk n z) : ∀ c ∈ tl z, c < 128 ∧ c ≠ 10 := fun c hc => by
  rw [tl_wds] at hc
  rcases joinL_mem _ hc with e | ⟨p, hp, hc⟩
  · subst e
    decide
  · obtain ⟨y, hy, rfl⟩ := List.mem_map.mp hp
    exact ⟨((h.w y hy).2 c hc).1, ((h.w y hy).2 c hc).2.2⟩
theorem lOk.sok {n : Nat} {z : Str} (h : lOk n z) : sok z := sok_iff.mpr fun c hc => by
  have := (h.sign c hc).1
  omega
theorem lOk.txt {n : Nat} {z : Str} (h : lOk n z) (hn : n ≤ 1000) : TxtOk z ∧ 10 ∉ tl z := by
  refine ⟨⟨?_, fun y hy => ?_⟩, fun q => (h.sign 10 q).2 rfl⟩
  · have := h.len
    omega
  · have := (h.w y hy).1
    omega
theorem lOk.few {n : Nat} {z : Str} (h : lOk n z) : ∀ x ∈ wds z, (prts x).length < 64 := fun x hx => by
  have := (h.w x hx).1
  have := prts_len x
  omega
theorem sum_bound {m : Nat} : ∀ (ls : List Str), (∀ y ∈ ls, y.length ≤ m) → (ls.map (·.length)).sum ≤ ls.length * m
  | [], _ => by simp
  | x :: r, h => by
    have h1 := h x List.mem_cons_self
    have h2 := sum_bound r fun y hy => h y (List.mem_cons_of_mem _ hy)
    simp only [List.map_cons, List.sum_cons, List.length_cons, Nat.add_mul]
    omega
/-- lines that are short enough can be read -/
theorem lw_of {ls : List Str} {n : Nat} (h : ∀ y ∈ ls, lOk n y) (hn : n ≤ 20) (hl : ls.length ≤ 60) : LwOk ls := by
  have hs := sum_bound (m := n * 62) ls fun y hy => (h y hy).len
  have hb : ls.length * (n * 62) ≤ 60 * (20 * 62) := Nat.mul_le_mul hl (by omega)
  refine ⟨⟨?_, fun y hy => (h y hy).txt (by omega)⟩, by omega, fun y hy => (h y hy).sok, fun y hy => (h y hy).few⟩
  unfold joinLen
  omega
/-! ### cuts -/
section
variable (xs : List V) (k j : Nat)
theorem cut_take : cutV xs none (some (k : Int)) = xs.take k := by
  unfold cutV
  rw [HT.sIx_none, HT.sIx_nat, List.drop_zero, Nat.sub_zero]
  by_cases h : k ≤ xs.length
  · rw [Nat.min_eq_left h]
  · rw [Nat.min_eq_right (by omega), List.take_length, List.take_of_length_le (by omega)]
theorem cut_drop : cutV xs (some (k : Int)) none = xs.drop k := by
  unfold cutV
  rw [HT.sIx_none, HT.sIx_nat]
  by_cases h : k ≤ xs.length
  · rw [Nat.min_eq_left h, List.take_of_length_le (by simp)]
  · rw [Nat.min_eq_right (by omega), List.drop_of_length_le (Nat.le_refl _), List.drop_of_length_le (by omega)]
    simp
theorem cut_mid : cutV xs (some (k : Int)) (some ((k + j : Nat) : Int)) = (xs.drop k).take j := by
  unfold cutV
  rw [HT.sIx_nat, HT.sIx_nat]
  by_cases h : k ≤ xs.length
  · rw [Nat.min_eq_left h]
    by_cases h2 : k + j ≤ xs.length
    · rw [Nat.min_eq_left h2, Nat.add_sub_cancel_left]
    · rw [Nat.min_eq_right (by omega), List.take_of_length_le (by simp), List.take_of_length_le (by simp; omega)]
  · rw [Nat.min_eq_right (show xs.length ≤ k by omega), Nat.min_eq_right (show xs.length ≤ k + j by omega), List.drop_of_length_le (Nat.le_refl _), List.drop_of_length_le (show xs.length ≤ k by omega)]
    simp
end
/-! ### text times a number -/
theorem op_mulS {X : Cx} : OpR X (binaryOp .Mult) (fun x y H Q => ∃ z n, x = .str z ∧ y = .int n ∧ MulOk z n ∧ Q (.str (Txt.mul z n)) H) := by
  intro pins s σ H x y v u Q I rx ry ⟨z, n, e1, e2, ok, q⟩
  subst e1 e2
  obtain ⟨t, rfl⟩ := rx
  obtain ⟨t', rfl⟩ := ry
  exact SB.mul ok fun t2 tk => ⟨.str (Txt.mul z n), H, I.tok _, ⟨_, rfl⟩, q⟩
abbrev one61 : Str := Txt.mul "1" 61
abbrev one60 : Str := Txt.mul "1" 60
abbrev nine60 : Str := Txt.mul "9" 60
theorem mk_161 : MulOk "1" 61 := by unfold MulOk; decide +kernel
theorem mk_160 : MulOk "1" 60 := by unfold MulOk; decide +kernel
theorem mk_960 : MulOk "9" 60 := by unfold MulOk; decide +kernel
abbrev odd1 : List Str := ["", "-", "0", "1", "00", "01", "-1", "+1", one61, one60, nine60, "a", "zz", "A", "ninechars"]
abbrev odd2 : List Str := ["on", "On", "off", "has", "not", "a,a", "b,a", "a,b", "a,", ",", "1,0", "1,,2", "2,10", "1,2,"]
abbrev odd3 : List Str := ["came", "live", "kind", "asker", "guard", "note", "a1", "1a", "no", "undo", "2", "3", "4", "5", "6"]
theorem odd_ok : ∀ y ∈ (odd1 ++ odd2) ++ odd3, wOk y := by decide +kernel
abbrev spOdd : Sp := Pr (fun d : Addr => [.ref d]) (fun d H => Feed H d) (fun d H r H' => (∃ z, r = .str z ∧ wOk z) ∧ Fd d H H')
abbrev spBentLine : Sp := Pr (fun q : Addr × Str × Nat => [.ref q.1, .str q.2.1]) (fun q H => Feed H q.1 ∧ lOk q.2.2 q.2.1 ∧ q.2.2 ≤ 100) (fun q H r H' => (∃ z, r = .str z ∧ lOk (q.2.2 + 1) z) ∧ Fd q.1 H H')
section
variable {P : Program} {w : World} {K : PySem.W.Frag} {mg : Str → Option Value} {base : Heap}
theorem ok_law_odd_word (T : Tx K mg) : OkF P w K mg base CX0 3 "_law_odd_word" ["_law_feed_here"] spOdd := by
  have sc : FnScope ["_law_feed_here", "_law_some"] ["_law_feed_here"] (defScope (topS 62)) := ⟨rfl, rfl, rfl, by decide +kernel, rfl, by decide +kernel, by decide +kernel⟩
  refine okF T 46 62 rfl sc (fun _ _ _ _ _ _ us hl => match us, hl with | [_], _ => rfl) (fun vs H Q E ⟨_, e, _⟩ => by rw [e] <;> rfl) fun cdv A outer s H vs Q E hr ⟨d, e, hF, hQ⟩ => ?_
  have e : vs = [V.ref d] := e
  subst e
  have hS : 200000 ≤ sizeLine := by rw [sizeLine_eq]; decide
  refine ⟨_, PSs.nox (pss_cons (ps_set (i := 1) sc.nd rfl (Or.inl rfl) (pe_lst (pa_cons pe_str (pa_cons pe_str (pa_cons pe_str (pa_cons pe_str (pa_cons pe_str (pa_cons pe_str (pa_cons pe_str (pa_cons pe_str (pa_cons (pe_op op_mulS pe_str pe_int) (pa_cons (pe_op op_mulS pe_str pe_int) (pa_cons (pe_op op_mulS pe_str pe_int) (pa_cons pe_str (pa_cons pe_str (pa_cons pe_str (pa_cons pe_str pa_nil)))))))))))))))))
 (pss_cons (ps_set (i := 1) sc.nd rfl (Or.inl rfl) (pe_op op_cat (pv 1) (pe_lst (pa_cons pe_str (pa_cons pe_str (pa_cons pe_str (pa_cons pe_str (pa_cons pe_str (pa_cons pe_str (pa_cons pe_str (pa_cons pe_str (pa_cons pe_str (pa_cons pe_str (pa_cons pe_str (pa_cons pe_str (pa_cons pe_str (pa_cons pe_str pa_nil)))))))))))))))))
 (pss_cons (ps_set (i := 1) sc.nd rfl (Or.inl rfl) (pe_op op_cat (pv 1) (pe_lst (pa_cons pe_str (pa_cons pe_str (pa_cons pe_str (pa_cons pe_str (pa_cons pe_str (pa_cons pe_str (pa_cons pe_str (pa_cons pe_str (pa_cons pe_str (pa_cons pe_str (pa_cons pe_str (pa_cons pe_str (pa_cons pe_str (pa_cons pe_str (pa_cons pe_str pa_nil))))))))))))))))))
 (pss_one (ps_ret (pe_fn (ok_law_any T) (hr.mono (by decide)) pass0 (pa_cons (pv 0) (pa_cons (pv 1) pa_nil)))))))), ?_⟩
  refine ⟨_, _, rfl, rfl, mk_161, _, _, rfl, rfl, mk_160, _, _, rfl, rfl, mk_960, by show 15 ≤ _; omega, fun l1 h1 => ?_⟩
  have e1 : (upd H l1 (.lst (vS odd1))) l1 = some (.lst (vS odd1)) := upd_same
  refine ⟨_, rfl, by show 14 ≤ _; omega, fun l2 h2 => ⟨l1, l2, vS odd1, vS odd2, rfl, rfl, same_upd h2 _ _ e1, upd_same, by show 15 + 14 ≤ _; omega, fun l3 h3 => ?_⟩⟩
  refine ⟨_, rfl, by show 15 ≤ _; omega, fun l4 h4 => ⟨l3, l4, vS odd1 ++ vS odd2, vS odd3, rfl, rfl, same_upd h4 _ _ upd_same, upd_same, by show (15 + 14) + 15 ≤ _; omega, fun l5 h5 => ?_⟩⟩
  have s1 : Same H (upd (upd (upd (upd (upd H l1 (.lst (vS odd1))) l2 (.lst (vS odd2))) l3 (.lst (vS odd1 ++ vS odd2))) l4 (.lst (vS odd3))) l5 (.lst ((vS odd1 ++ vS odd2) ++ vS odd3))) := ((((same_upd h1).trans (same_upd h2)).trans (same_upd h3)).trans (same_upd h4)).trans (same_upd h5)
  have x1 : Fd d H _ := Fd.same s1
  refine ⟨_, rfl, _, rfl, (d, l5, (vS odd1 ++ vS odd2) ++ vS odd3), rfl, ⟨x1.feed hF, SqL.of upd_same, by show 1 ≤ 44; omega, by show 44 ≤ 100000; omega⟩, fun r H1 q => hQ _ _ ⟨?_, x1.trans q.2⟩⟩
  have hm : r ∈ vS ((odd1 ++ odd2) ++ odd3) := by
    have e3 : vS ((odd1 ++ odd2) ++ odd3) = (vS odd1 ++ vS odd2) ++ vS odd3 := List.map_append.trans (congrArg (· ++ vS odd3) List.map_append)
    rw [e3]
    exact q.1
  obtain ⟨z, hz, rfl⟩ := List.mem_map.mp hm
  exact ⟨z, rfl, odd_ok z hz⟩
end
end Fl

-- KM5
/-! what is due can be shown: it is not too long -/
namespace Fl
open PySem PySem.Spec PyProof.Rows L2 TL RZ
structure Sm (D W : Nat) (d : PyData) : Prop where
  s : d.showable = true
  n : d.hasDict = false
  l : d.leavesShort 100 = true
  w : d.weight ≤ W
  p : d.depth ≤ D
structure Sms (D W : Nat) (ds : List PyData) : Prop where
  s : PyData.showableAll ds = true
  n : PyData.hasDictAll ds = false
  l : PyData.leavesShortAll 100 ds = true
  w : PyData.weightAll ds ≤ W
  p : PyData.depthAll ds ≤ D
section
variable {D W w : Nat} {d : PyData} {ds : List PyData}
theorem Sm.mono {D' W' : Nat} (h : Sm D W d) (h1 : D ≤ D') (h2 : W ≤ W') : Sm D' W' d := ⟨h.s, h.n, h.l, Nat.le_trans h.w h2, Nat.le_trans h.p h1⟩
theorem sm_str {z : Str} (h : sok z) (hl : z.length ≤ W) : Sm D W (.str z) := by
  refine ⟨rfl, rfl, ?_, hl, Nat.zero_le _⟩
  rw [PyData.leavesShort, List.all_eq_true]
  intro c hc
  have h1 := sok_iff.mp h c hc
  exact decide_eq_true (Nat.lt_trans h1 (by decide))
theorem sm_bool (b : Bool) : Sm D W (.bool b) := ⟨rfl, rfl, rfl, Nat.zero_le _, Nat.zero_le _⟩
theorem sm_nat {n : Nat} (h : n < 10 ^ 61) : Sm D 300 (.int (n : Nat)) := by
  have h2 : n < 2 ^ 204 := Nat.lt_trans h (by decide)
  have hlog : n.log2 < 204 := by
    by_cases h0 : n = 0
    · rw [h0]; decide
    · exact (Nat.log2_lt h0).mpr h2
  have hlen := int_text_length_le10 (a := ((n : Nat) : Int)) (k := 61) (by decide) h
  refine ⟨?_, rfl, ?_, ?_, Nat.zero_le _⟩
  · rw [PyData.showable]
    exact decide_eq_true (show n.log2 < 1920 by omega)
  · rw [PyData.leavesShort]
    refine decide_eq_true ?_
    show (Str.ofString (toString ((n : Nat) : Int))).length ≤ 100
    rw [PySem.ofString_length]
    omega
  · rw [PyData.weight]
    split
    · omega
    · show n.log2 + 1 ≤ 300
      omega
theorem sms_nil : Sms D 0 [] := ⟨rfl, rfl, rfl, Nat.le_refl _, Nat.zero_le _⟩
theorem sms_cons (h : Sm D w d) (hs : Sms D W ds) : Sms D (w + 1 + W) (d :: ds) := by
  refine ⟨?_, ?_, ?_, ?_, ?_⟩
  · rw [PyData.showableAll, h.s, hs.s] <;> rfl
  · rw [PyData.hasDictAll, h.n, hs.n] <;> rfl
  · rw [PyData.leavesShortAll, h.l, hs.l] <;> rfl
  · have := h.w
    have := hs.w
    rw [PyData.weightAll]
    omega
  · rw [PyData.depthAll]
    exact Nat.max_le.mpr ⟨h.p, hs.p⟩
theorem sm_tup (h : Sms D W ds) : Sm (D + 1) W (.tuple ds) := by
  refine ⟨?_, ?_, ?_, ?_, ?_⟩
  · rw [PyData.showable]; exact h.s
  · rw [PyData.hasDict]; exact h.n
  · rw [PyData.leavesShort]; exact h.l
  · rw [PyData.weight]; exact h.w
  · rw [PyData.depth]; exact Nat.succ_le_succ h.p
theorem sms_map {α : Type} {f : α → PyData} : ∀ {l : List α}, (∀ x ∈ l, Sm D W (f x)) → Sms D (l.length * (W + 1)) (l.map f)
  | [], _ => by
    rw [List.map_nil, List.length_nil, Nat.zero_mul]
    exact sms_nil
  | x :: r, h => by
    have h1 := sms_cons (h x List.mem_cons_self) (sms_map (l := r) fun y hy => h y (List.mem_cons_of_mem _ hy))
    rw [List.map_cons, List.length_cons, Nat.add_mul, Nat.one_mul, Nat.add_comm (r.length * (W + 1))]
    exact h1
theorem Sms.mono {D' W' : Nat} (h : Sms D W ds) (h1 : D ≤ D') (h2 : W ≤ W') : Sms D' W' ds := ⟨h.s, h.n, h.l, Nat.le_trans h.w h2, Nat.le_trans h.p h1⟩
theorem Sm.fits (h : Sm D W d) (hW : W ≤ 164000) : d.shown.length ≤ sizeLine := by
  have h1 := PyData.shown_le 100 (by decide) d h.l
  have h2 := h.w
  have h3 : (100 + 2) * d.weight ≤ 102 * 164000 := Nat.mul_le_mul (by decide) (by omega)
  rw [sizeLine_eq]
  omega
end
/-! ### numbers -/
theorem fold_lt : ∀ (l : List Nat) (a : Nat), (∀ c ∈ l, 48 ≤ c ∧ c ≤ 57) → l.foldl (fun acc c => acc * 10 + (c - 48)) a < (a + 1) * 10 ^ l.length
  | [], a, _ => by simp
  | c :: r, a, h => by
    have hc := h c List.mem_cons_self
    have ih := fold_lt r (a * 10 + (c - 48)) fun x hx => h x (List.mem_cons_of_mem _ hx)
    rw [List.foldl_cons, List.length_cons, Nat.pow_succ]
    refine Nat.lt_of_lt_of_le ih ?_
    have h1 : a * 10 + (c - 48) + 1 ≤ (a + 1) * 10 := by omega
    have h2 := Nat.mul_le_mul_right (10 ^ r.length) h1
    rw [Nat.mul_assoc] at h2
    rw [Nat.mul_comm (10 ^ r.length) 10]
    exact h2
theorem sm_num {D : Nat} {z : Str} (h : cNum z = true) : Sm D 300 (.int (valN z)) := by
  unfold cNum at h
  rw [numO_some] at h
  unfold numB at h
  simp only [Bool.and_eq_true, decide_eq_true_eq] at h
  obtain ⟨_, h2, h3, _⟩ := h
  have hd : ∀ c ∈ tl z, 48 ≤ c ∧ c ≤ 57 := fun c hc => digL_iff.mp (of_decide_eq_true (List.all_eq_true.mp h3 c hc))
  have h4 := fold_lt (tl z) 0 hd
  rw [len_tl] at h2
  have h5 : 10 ^ (tl z).length ≤ 10 ^ 60 := Nat.pow_le_pow_right (by decide) h2
  refine sm_nat ?_
  unfold NumText.digitsVal
  refine Nat.lt_of_lt_of_le h4 (Nat.le_trans (Nat.le_of_eq (by rw [Nat.zero_add, Nat.one_mul])) (Nat.le_trans h5 (by decide)))
/-! ### words -/
def Wg (W : Nat) (ws : List Str) : Prop := ∀ i, sok (wat ws i) ∧ (wat ws i).length ≤ W
theorem wg_of {W : Nat} {ws : List Str} (h : ∀ y ∈ ws, sok y ∧ y.length ≤ W) : Wg W ws := fun i => by
  by_cases hi : i < ws.length
  · exact h _ (wat_mem hi)
  · rw [wat_out (by omega)]
    exact ⟨by decide +kernel, Nat.zero_le _⟩
theorem spot_took {c : Can} {r : List Can} {ws : List Str} {i : Nat} (h : spotF (c :: r) ws i = none) : c (wat ws i) = true ∧ spotF r ws (i + 1) = none := spot_cons h
theorem sm_store {W i : Nat} {ws : List Str} (g : Wg W ws) (h : cNum (wat ws (i + 1)) = true) : Sm 1 (W + 302) (storeD ws i) :=
  (sm_tup (sms_cons (sm_str (g i).1 (g i).2) (sms_cons (sm_num (D := 0) h) sms_nil))).mono (Nat.le_refl _) (by omega)
theorem sm_ev {W : Nat} {ws : List Str} (g : Wg W ws) (h : evSpot ws = none) : Sm 2 (2 * W + 700) (evD ws) := by
  unfold evSpot at h
  unfold evD
  by_cases h1 : wat ws 0 = ("came" : Str)
  · rw [if_pos h1] at h
    rw [if_pos h1]
    obtain ⟨_, h⟩ := spot_took h
    obtain ⟨a2, h⟩ := spot_took h
    obtain ⟨_, h⟩ := spot_took h
    obtain ⟨a4, h⟩ := spot_took h
    exact (sm_tup (sms_cons (sm_str (D := 1) (W := 4) (by decide +kernel) (by decide +kernel)) (sms_cons (sm_store g a2) (sms_cons (sm_store g a4) sms_nil)))).mono (Nat.le_refl _) (by omega)
  · rw [if_neg h1]
    exact (sm_tup (sms_cons (sm_str (D := 1) (g 0).1 (g 0).2) (sms_cons (sm_str (g 1).1 (g 1).2) sms_nil))).mono (Nat.le_refl _) (by omega)
theorem sm_text {D : Nat} {p : Nat × Nat} (h1 : p.1 < 10 ^ 61) (h2 : p.2 < 10 ^ 61) : Sm (D + 1) 700 (textD p) :=
  (sm_tup (sms_cons (sm_str (W := 4) (by decide +kernel) (by decide +kernel)) (sms_cons (sm_nat h1) (sms_cons (sm_nat h2) sms_nil)))).mono (Nat.le_refl _) (by omega)
theorem sm_told {D W : Nat} {d : PyData} (h : Sm D W d) : Sm (D + 1) (W + 6) (toldD d) :=
  (sm_tup (sms_cons (sm_str (W := 4) (by decide +kernel) (by decide +kernel)) (sms_cons h sms_nil))).mono (Nat.le_refl _) (by omega)
theorem spot_le : ∀ {cs : List Can} {ws : List Str} {i s : Nat}, spotF cs ws i = some s → s ≤ i + cs.length
  | [], ws, i, s, h => by
    rw [spotF] at h
    split at h
    · cases h
    · rw [Option.some.inj h]
      exact Nat.le_refl _
  | c :: r, ws, i, s, h => by
    rw [spotF] at h
    split at h
    · have := spot_le h
      rw [List.length_cons]
      omega
    · rw [Option.some.inj h]
      exact Nat.le_add_right _ _
theorem evSpot_le {ws : List Str} {s : Nat} (h : evSpot ws = some s) : s ≤ 100 := by
  unfold evSpot at h
  split at h
  · have h1 := spot_le h
    have e : cameC.length = 4 := rfl
    omega
  · split at h
    · have h1 := spot_le h
      have e : [cGuard].length = 1 := rfl
      omega
    · split at h
      · have h1 := spot_le h
        have e : [nameB].length = 1 := rfl
        omega
      · rw [← Option.some.inj h]
        decide
theorem lnSpot_le {b : Bool} {ws : List Str} {s : Nat} (h : lnSpot b ws = some s) : s ≤ 100 := by
  unfold lnSpot at h
  split at h
  · rw [← Option.some.inj h]
    decide
  · split at h
    · have h1 := spot_le h
      have e : kindC.length = 4 := rfl
      omega
    · split at h
      · have h1 := spot_le h
        have e : [nameB].length = 1 := rfl
        omega
      · rw [← Option.some.inj h]
        decide
theorem webF_le : ∀ {rows : List Str} {k : Nat} {b : Bool} {p : Nat × Nat}, webF k b rows = some p → p.1 ≤ k + rows.length ∧ p.2 ≤ 100
  | [], k, b, p, h => by
    rw [webF] at h
    split at h
    · cases h
    · rw [← Option.some.inj h]
      exact ⟨Nat.le_refl _, Nat.zero_le _⟩
  | x :: r, k, b, p, h => by
    rw [webF_cons] at h
    cases hs : lnSpot b (wds x) with
    | some s =>
      rw [hs] at h
      rw [← Option.some.inj h]
      exact ⟨Nat.le_add_right _ _, lnSpot_le hs⟩
    | none =>
      rw [hs] at h
      have := webF_le (rows := r) (k := k + 1) h
      rw [List.length_cons]
      omega
theorem evF_le : ∀ {l : List Str} {k : Nat} {p : Nat × Nat}, evF k l = some p → p.1 ≤ k + l.length ∧ p.2 ≤ 100
  | [], k, p, h => by cases h
  | x :: r, k, p, h => by
    rw [evF_cons] at h
    cases hs : evSpot (wds x) with
    | some s =>
      rw [hs] at h
      rw [← Option.some.inj h]
      exact ⟨Nat.le_add_right _ _, evSpot_le hs⟩
    | none =>
      rw [hs] at h
      have := evF_le (l := r) (k := k + 1) h
      rw [List.length_cons]
      omega
theorem logF_le {ls : List Str} {p : Nat × Nat} (h : logF ls = some p) : p.1 ≤ ls.length + 1 ∧ p.2 ≤ 100 := by
  cases ls with
  | nil =>
    rw [← Option.some.inj h]
    exact ⟨Nat.zero_le _, Nat.zero_le _⟩
  | cons x r =>
    rw [logF_cons] at h
    rw [List.length_cons]
    cases hs : spotF liveC (wds x) 0 with
    | some s =>
      rw [hs] at h
      have h1 := spot_le hs
      have e : liveC.length = 5 := rfl
      rw [← Option.some.inj h]
      exact ⟨Nat.zero_le _, by show s ≤ 100; omega⟩
    | none =>
      rw [hs] at h
      cases hw : webF 0 false (rowsN x r) with
      | some q =>
        rw [hw] at h
        obtain ⟨a1, a2⟩ := webF_le hw
        have hl : (rowsN x r).length ≤ r.length := by
          unfold rowsN
          rw [List.length_take]
          omega
        rw [← Option.some.inj h]
        exact ⟨by show q.1 + 1 ≤ _; omega, a2⟩
      | none =>
        rw [hw] at h
        have h : (if r.length < manyN x then some (r.length + 1, 0) else evF (manyN x + 1) (r.drop (manyN x))) = some p := h
        split at h
        · rw [← Option.some.inj h]
          exact ⟨Nat.le_succ _, Nat.zero_le _⟩
        · obtain ⟨a1, a2⟩ := evF_le h
          rw [List.length_drop] at a1
          omega
/-! ### what is due -/
theorem sm_dueE {z : Str} (h1 : sok z) (h2 : ∀ y ∈ wds z, y.length ≤ 900) : Sm 3 3000 (dueE z) := by
  unfold dueE
  cases h : evSpot (wds z) with
  | some s =>
    have := evSpot_le h
    exact (sm_text (D := 0) (p := (0, s)) (show 0 < 10 ^ 61 by decide) (Nat.lt_of_le_of_lt this (by decide))).mono (by decide) (by decide)
  | none => exact (sm_told (sm_ev (W := 900) (wg_of fun y hy => ⟨sok_wds h1 hy, h2 y hy⟩) h)).mono (by decide) (by decide)
theorem wg_line {n : Nat} {z : Str} (h : lOk n z) : Wg 61 (wds z) := wg_of fun y hy => ⟨sok_wds h.sok hy, (h.w y hy).1⟩
theorem sm_kind {ws : List Str} (g : Wg 61 ws) (h : spotF kindC ws 1 = none) : Sm 2 4300 (kindD ws) := by
  obtain ⟨_, h⟩ := spot_took h
  obtain ⟨a2, h⟩ := spot_took h
  have ht : Sms 0 (62 * 62) ((tblP (wat ws 4)).map .str) := by
    unfold tblP
    by_cases hm : wat ws 4 = ("-" : Str)
    · rw [if_pos hm]
      exact sms_nil.mono (Nat.le_refl _) (Nat.zero_le _)
    · rw [if_neg hm]
      have hp := prts_len (wat ws 4)
      have hl := (g 4).2
      refine (sms_map (D := 0) (W := 61) (f := PyData.str) (l := prts (wat ws 4)) fun x hx => sm_str (sok_prts (g 4).1 hx) (Nat.le_trans (prts_mem_len hx) hl)).mono (Nat.le_refl _) ?_
      exact Nat.mul_le_mul_right _ (by omega)
  exact (sm_tup (sms_cons (sm_str (D := 1) (g 1).1 (g 1).2) (sms_cons (sm_num (fee_num a2)) (sms_cons (sm_bool (W := 0) _) (sms_cons (sm_tup ht) sms_nil))))).mono (Nat.le_refl _) (by omega)
theorem sm_nums {z : Str} (h : nmsB z = true) (hl : z.length ≤ 61) : Sm 1 18700 (numsD z) := by
  have hp := prts_len z
  refine (sm_tup (sms_map (D := 0) (W := 300) (f := fun x => PyData.int (valN x)) (l := prts z) fun x hx => sm_num (fee_num ?_))).mono (Nat.le_refl _) ?_
  · have h1 := List.all_eq_true.mp h x hx
    rw [cnt_same] at h1
    exact h1
  · have : (prts z).length * (300 + 1) ≤ 62 * 301 := Nat.mul_le_mul_right _ (by omega)
    omega
theorem sm_web {n : Nat} {front : List Str} {last : Str} (hl : ∀ y ∈ front ++ [last], lOk n y) (hn : front.length ≤ 15) (hk : ∀ y ∈ front, spotF kindC (wds y) 1 = none) : Sm 4 65000 (webD (front ++ [last])) := by
  unfold webD
  have e1 : (front ++ [last]).dropLast = front := by simp
  have e2 : (front ++ [last]).getLastD Str.empty = last := by simp
  rw [e1, e2]
  have hf : Sms 2 (front.length * (4300 + 1)) (front.map fun x => kindD (wds x)) := sms_map fun y hy => sm_kind (wg_line (hl y (List.mem_append_left _ hy))) (hk y hy)
  have hb : front.length * (4300 + 1) ≤ 15 * 4301 := Nat.mul_le_mul_right _ hn
  have g := wg_line (hl last (List.mem_append_right _ (List.mem_singleton.mpr rfl)))
  exact (sm_tup (sms_cons (sm_tup hf) (sms_cons (sm_str (g 1).1 (g 1).2) sms_nil))).mono (by decide) (by omega)
theorem sm_log {n : Nat} {ls : List Str} (hl : ∀ y ∈ ls, lOk n y) (hn : ls.length ≤ 15) (h : logF ls = none) : Sm 6 120000 (logD ls) := by
  cases ls with
  | nil => cases h
  | cons x r =>
    obtain ⟨front, last, o⟩ := log_parts h
    have hx := hl x List.mem_cons_self
    have gx := wg_line hx
    have h0 := o.live
    obtain ⟨_, h0⟩ := spot_took h0
    obtain ⟨_, h0⟩ := spot_took h0
    obtain ⟨a2, h0⟩ := spot_took h0
    obtain ⟨a3, h0⟩ := spot_took h0
    rw [List.length_cons] at hn
    have hr : ∀ y ∈ rowsN x r, lOk n y := fun y hy => hl y (List.mem_cons_of_mem _ (List.mem_of_mem_take hy))
    have hfl := o.len
    have hle := o.le
    rw [o.rows] at hr
    have hweb := sm_web hr (by omega) fun y hy => (o.kind y hy).2
    have hlive : Sm 5 84500 (liveD x (rowsN x r)) := by
      unfold liveD
      rw [o.rows]
      exact (sm_tup (sms_cons (sm_str (D := 4) (W := 4) (by decide +kernel) (by decide +kernel)) (sms_cons hweb (sms_cons ((sm_nums a3 (gx 3).2).mono (by decide) (Nat.le_refl _)) (sms_cons (sm_num a2) (sms_cons (sm_str (gx 1).1 (gx 1).2) sms_nil)))))).mono (Nat.le_refl _) (by omega)
    have hev : Sms 2 ((r.drop (manyN x)).length * (2 * 61 + 700 + 1)) ((r.drop (manyN x)).map fun y => evD (wds y)) := sms_map fun y hy => sm_ev (wg_line (hl y (List.mem_cons_of_mem _ (List.mem_of_mem_drop hy)))) (o.ev y hy)
    have hd : (r.drop (manyN x)).length ≤ 15 := by rw [List.length_drop]; omega
    have hb : (r.drop (manyN x)).length * (2 * 61 + 700 + 1) ≤ 15 * 823 := Nat.mul_le_mul_right _ hd
    exact (sm_tup (sms_cons hlive (hev.mono (by decide) hb))).mono (Nat.le_refl _) (by omega)
theorem sm_dueD {n : Nat} {ls : List Str} (hl : ∀ y ∈ ls, lOk n y) (hn : ls.length ≤ 15) : Sm 7 121000 (dueD ls) := by
  unfold dueD
  cases h : logF ls with
  | some p =>
    obtain ⟨a1, a2⟩ := logF_le h
    have b1 : p.1 ≤ 100 := by omega
    exact (sm_text (D := 0) (Nat.lt_of_le_of_lt b1 (by decide)) (Nat.lt_of_le_of_lt a2 (by decide))).mono (by decide) (by decide)
  | none => exact (sm_told (sm_log hl hn h)).mono (by decide) (by decide)
end Fl

-- KD3
/-! lines as the law bends them -/
namespace Fl
open PySem PySem.Spec PyProof.Rows L2 TL RZ
theorem vS_take (ws : List Str) (k : Nat) : cutV (vS ws) none (some (k : Int)) = vS (ws.take k) := by rw [cut_take]; exact (List.map_take ..).symm
theorem vS_drop (ws : List Str) (k : Nat) : cutV (vS ws) (some (k : Int)) none = vS (ws.drop k) := by rw [cut_drop]; exact (List.map_drop ..).symm
theorem vS_mid (ws : List Str) (k j : Nat) : cutV (vS ws) (some (k : Int)) (some ((k + j : Nat) : Int)) = vS ((ws.drop k).take j) := by
  rw [cut_mid]
  show _ = (List.take j (List.drop k ws)).map V.str
  rw [List.map_take, List.map_drop]
theorem vS_app (a b : List Str) : vS a ++ vS b = vS (a ++ b) := List.map_append.symm
abbrev spc1 : Str := " "
theorem El_len {a : Nat} {ws : List Str} (h : ws.length ≤ a) : (vS ws).length ≤ a := by rw [List.length_map]; exact h
/-! ### lists of texts that are made, and texts: the feed may move on -/
def EL (W : Str → Prop) (n : Nat) (l : List V) : Prop := ∃ ws : List Str, l = vS ws ∧ (∀ y ∈ ws, W y) ∧ ws.length ≤ n
def LP (d : Addr) (H0 : Hp) (σ : L2.St) (te : TE) (R : List V → Prop) : Prop := ∀ (H : Hp) (Q : VK), Fd d H0 H → (∀ (p : Addr) (l : List V) (H' : Hp), R l → H' p = some (.lst l) → Fd d H H' → Q (.ref p) H') → te σ H Q
def TP (d : Addr) (H0 : Hp) (σ : L2.St) (te : TE) (W : Str → Prop) : Prop := ∀ (H : Hp) (Q : VK), Fd d H0 H → (∀ (z : Str) (H' : Hp), W z → Fd d H H' → Q (.str z) H') → te σ H Q
def KI (σ : L2.St) (te : TE) (i : Int) : Prop := ∀ (H : Hp) (Q : VK), Q (.int i) H → te σ H Q
section
variable {d a : Addr} {H0 : Hp} {σ : L2.St} {ta tb te : TE} {W W' : Str → Prop} {k m n i : Nat} {ws : List Str} {K : PySem.W.Frag}
theorem ki_c (i : Int) : KI σ (tC (.int i)) i := fun _ _ q => q
theorem ki_v {i : Nat} {k : Int} (h : σ[i]? = some (some (.int k))) : KI σ (tVar i) k := fun _ _ q => ⟨_, h, q⟩
theorem ki_add {x y : Int} (h1 : KI σ ta x) (h2 : KI σ tb y) : KI σ (tOp (rI0 fun i j => .int (i + j)) ta tb) (x + y) := fun H Q q => h1 H _ (h2 H _ ⟨_, _, rfl, rfl, q⟩)
theorem LP.mono {R R' : List V → Prop} (h : LP d H0 σ te R) (q : ∀ l, R l → R' l) : LP d H0 σ te R' := fun H Q x z => h H Q x fun p l H' r => z p l H' (q l r)
theorem lp_le (h : LP d H0 σ te (EL W m)) (q : m ≤ n) : LP d H0 σ te (EL W n) := h.mono fun l ⟨ws, e, w, b⟩ => ⟨ws, e, w, Nat.le_trans b q⟩
theorem lp_cat (ha : LP d H0 σ ta (EL W m)) (hb : LP d H0 σ tb (EL W n)) (h : m + n ≤ 200000) : LP d H0 σ (tOp rCat ta tb) (EL W (m + n)) := by
  have hS : 200000 ≤ sizeLine := by rw [sizeLine_eq]; decide
  intro H Q x q
  refine ha H _ x fun p l H1 r1 h1 x1 => hb H1 _ (x.trans x1) fun p2 l2 H2 r2 h2 x2 => ?_
  obtain ⟨u1, rfl, w1, n1⟩ := r1
  obtain ⟨u2, rfl, w2, n2⟩ := r2
  have b1 := El_len n1
  have b2 := El_len n2
  refine ⟨p, p2, _, _, rfl, rfl, x2.lst h1, h2, by omega, fun p3 h3 => q p3 _ _ ⟨u1 ++ u2, rfl, fun y hy => (List.mem_append.mp hy).elim (w1 y) (w2 y), by rw [List.length_append]; omega⟩ ?_ ((x1.trans x2).trans (Fd.same (same_upd h3)))⟩
  rw [upd_same, vS_app]
theorem lp_take (hi : σ[i]? = some (some (.ref a))) (ha : H0 a = some (.lst (vS ws))) (hw : ∀ y ∈ ws, W y) (hk : KI σ tb (k : Nat)) : LP d H0 σ (tSl (rSlL K) (tVar i) tNoPart (tPart tb)) (EL W k) := by
  intro H Q x q
  refine ⟨_, hi, hk H _ ⟨_, rfl, a, _, rfl, SqL.of (x.lst ha), fun p hp => q p _ _ ⟨ws.take k, vS_take ws k, fun y hy => hw y (List.mem_of_mem_take hy), by rw [List.length_take]; omega⟩ upd_same (Fd.same (same_upd hp))⟩⟩
theorem lp_drop (hi : σ[i]? = some (some (.ref a))) (ha : H0 a = some (.lst (vS ws))) (hw : ∀ y ∈ ws, W y) (hk : KI σ tb (k : Nat)) : LP d H0 σ (tSl (rSlL K) (tVar i) (tPart tb) tNoPart) (EL W (ws.length - k)) := by
  intro H Q x q
  refine ⟨_, hi, hk H _ ⟨_, rfl, a, _, rfl, SqL.of (x.lst ha), fun p hp => q p _ _ ⟨ws.drop k, vS_drop ws k, fun y hy => hw y (List.mem_of_mem_drop hy), by rw [List.length_drop] <;> exact Nat.le_refl _⟩ upd_same (Fd.same (same_upd hp))⟩⟩
theorem lp_rev {tc : TE} {j : Nat} (hi : σ[i]? = some (some (.ref a))) (ha : H0 a = some (.lst (vS ws))) (hw : ∀ y ∈ ws, W y) (hk : KI σ tb (k : Nat)) (hj : KI σ tc ((k + j : Nat) : Int)) :
    LP d H0 σ (tRevL K (tSl (rSlL K) (tVar i) (tPart tb) (tPart tc))) (EL W (min j (ws.length - k))) := by
  intro H Q x q
  refine ⟨_, hi, hk H _ ⟨_, rfl, hj H _ ⟨_, rfl, a, _, rfl, SqL.of (x.lst ha), fun p hp => ⟨p, _, rfl, SqL.of upd_same, fun p2 hp2 => ?_⟩⟩⟩⟩
  refine q p2 _ _ ⟨((ws.drop k).take j).reverse, ?_, fun y hy => hw y (List.mem_of_mem_drop (List.mem_of_mem_take (List.mem_reverse.mp hy))), ?_⟩ upd_same ((Fd.same (same_upd hp)).trans (Fd.same (same_upd hp2)))
  · rw [vS_mid]
    exact List.map_reverse.symm
  · rw [List.length_reverse, List.length_take, List.length_drop] <;> exact Nat.le_refl _
theorem lp_var (hi : σ[i]? = some (some (.ref a))) (ha : H0 a = some (.lst (vS ws))) (hw : ∀ y ∈ ws, W y) : LP d H0 σ (tVar i) (EL W ws.length) := fun H Q x q => ⟨_, hi, q a _ H ⟨ws, rfl, hw, Nat.le_refl _⟩ (x.lst ha) (Fd.refl d H)⟩
theorem lp_one (h : TP d H0 σ te W) : LP d H0 σ (tLst (tCons te tNil)) (EL W 1) := fun H Q x q => h H _ x fun z H1 hz x1 => ⟨by rw [sizeLine_eq]; exact (by decide : 1 ≤ 16777216), fun p hp => q p _ _ ⟨[z], rfl, fun y hy => by rw [List.mem_singleton.mp hy]; exact hz, Nat.le_refl _⟩ upd_same (x1.trans (Fd.same (same_upd hp)))⟩
theorem TP.mono {W2 : Str → Prop} (h : TP d H0 σ te W) (q : ∀ z, W z → W2 z) : TP d H0 σ te W2 := fun H Q x z => h H Q x fun y H' r => z y H' (q y r)
theorem tp_c {z : Str} (h : W z) : TP d H0 σ (tC (.str z)) W := fun H Q _ q => q z H h (Fd.refl d H)
def rJoin (K : PySem.W.Frag) : V → List V → Hp → VK → Prop := fun x xs H Q => ∃ a p, ∃ ys : List Str, x = .str a ∧ xs = [.ref p] ∧ (SqL K H p (ys.map V.str) ∨ SqT K H p (ys.map V.str)) ∧
      (ys.map (·.length)).sum + ys.length * a.length ≤ 16777216 ∧ Q (.str (Txt.join a ys)) H
theorem tp_join (h : LP d H0 σ te (EL wOk n)) (hn : n ≤ 1000) (h1 : 1 ≤ n) : TP d H0 σ (tM1 (rJoin K) (tC (.str spcS)) te) (lOk n) := by
  intro H Q x q
  refine ⟨⟨_, rfl⟩, h H _ x fun p l H1 ⟨ws, e, w, b⟩ hp x1 => ?_⟩
  subst e
  have hs := sum_bound (m := 61) ws fun y hy => (w y hy).1
  have hsp : (Str.length spcS) = 1 := by decide +kernel
  have h61 : ws.length * 61 ≤ 1000 * 61 := Nat.mul_le_mul_right 61 (by omega)
  exact ⟨spcS, p, ws, rfl, rfl, .inl (SqL.of hp), by rw [hsp]; omega, q _ _ (lOk_join w b h1) x1⟩
end
section
variable {P : Program} {w : World} {K : PySem.W.Frag} {mg : Str → Option Value} {base : Heap}
theorem ok_law_bent_line (T : Tx K mg) : OkF P w K mg base CX0 4 "_law_bent_line" ["_law_feed_here", "_law_line_here"] spBentLine := by
  have sc : FnScope ["_law_feed_here", "_law_line_here", "_law_words", "_law_way", "_law_k"] ["_law_feed_here", "_law_line_here"] (defScope (topS 63)) := ⟨rfl, rfl, rfl, by decide +kernel, rfl, by decide +kernel, by decide +kernel⟩
  refine okF T 47 63 rfl sc (fun _ _ _ _ _ _ us hl => match us, hl with | [_, _], _ => rfl) (fun vs H Q E ⟨_, e, _⟩ => by rw [e] <;> rfl) fun cdv A outer s H vs Q E hr ⟨⟨d, z, n⟩, e, ⟨hF, hz, hn⟩, hQ⟩ => ?_
  have e : vs = [V.ref d, V.str z] := e
  subst e
  have hF : Feed H d := hF
  have hz : lOk n z := hz
  have hn : n ≤ 100 := hn
  have hS : 200000 ≤ sizeLine := by rw [sizeLine_eq]; decide
  refine ⟨_, PSs.nox (pss_cons (ps_par (i := 2) (j := 3) (by rfl) sc.nd rfl rfl (by decide) rfl rfl (pa_cons (pe_split (pv 1) pe_str) (pa_cons (pe_fn (ok_law_draw T) (hr.mono (by decide)) pass0 (pa_cons (pv 0) (pa_cons pe_int pa_nil))) pa_nil)) (by rfl))
 (pss_cons (ps_set (i := 4) sc.nd rfl (Or.inl rfl) (pe_fn (ok_law_draw T) (hr.mono (by decide)) pass0 (pa_cons (pv 0) (pa_cons (pe_callB call_len rfl (T.bl (x := "len")) (by decide +kernel) (pa_cons (pv 2) pa_nil)) pa_nil))))
 (pss_cons (ps_if (pt_cmpR op_eq (pv 3) pe_int (nomark _)) (pss_one (ps_ret (pe_join pe_str (pe_op op_cat (pe_slice sl_list (pv 2) po_none (po_some (pv 4))) (pe_slice sl_list (pv 2) (po_some (pe_op op_add (pv 4) pe_int)) po_none))))) pss_nil)
 (pss_cons (ps_if (pt_cmpR op_eq (pv 3) pe_int (nomark _)) (pss_one (ps_ret (pe_join pe_str (pe_op op_cat (pe_slice sl_list (pv 2) po_none (po_some (pe_op op_add (pv 4) pe_int))) (pe_slice sl_list (pv 2) (po_some (pv 4)) po_none))))) pss_nil)
 (pss_cons (ps_if (pt_cmpR op_eq (pv 3) pe_int (nomark _)) (pss_one (ps_ret (pe_join pe_str (pe_op op_cat (pe_op op_cat (pe_slice sl_list (pv 2) po_none (po_some (pv 4))) (pe_revL (pe_slice sl_list (pv 2) (po_some (pv 4)) (po_some (pe_op op_add (pv 4) pe_int))))) (pe_slice sl_list (pv 2) (po_some (pe_op op_add (pv 4) pe_int)) po_none))))) pss_nil)
 (pss_cons (ps_if (pt_cmpR op_eq (pv 3) pe_int (nomark _)) (pss_one (ps_ret (pe_join pe_str (pe_op op_cat (pv 2) (pe_lst (pa_cons (pe_fn (ok_law_odd_word T) (hr.mono (by decide)) pass0 (pa_cons (pv 0) pa_nil)) pa_nil)))))) pss_nil)
 (pss_one (ps_ret (pe_join pe_str (pe_op op_cat (pe_op op_cat (pe_slice sl_list (pv 2) po_none (po_some (pv 4))) (pe_lst (pa_cons (pe_fn (ok_law_odd_word T) (hr.mono (by decide)) pass0 (pa_cons (pv 0) pa_nil)) pa_nil))) (pe_slice sl_list (pv 2) (po_some (pe_op op_add (pv 4) (pe_callTy call_int1 rfl (T.bl (x := "int")) (by decide +kernel) (pa_cons (pe_cmpR op_gt (pv 3) pe_int (nomark _)) pa_nil)))) po_none))))))))))), ?_⟩
  have hws : (wds z).length ≤ n := hz.n
  have hw : ∀ y ∈ wds z, wOk y := hz.w
  have hzl := hz.len
  have h62 : n * 62 ≤ 100 * 62 := Nat.mul_le_mul_right 62 hn
  have hw1 : 1 ≤ (wds z).length := List.length_pos_iff.mpr (wds_ne z)
  refine ⟨_, rfl, ⟨_, rfl⟩, z, " ", rfl, rfl, rfl, by omega, fun l hl => ?_⟩
  have s1 : Same H (upd H l (.lst (vS (wds z)))) := same_upd hl
  have e1 : (upd H l (.lst (vS (wds z)))) l = some (.lst (vS (wds z))) := upd_same
  have x1 : Fd d H _ := Fd.same s1
  refine ⟨_, rfl, (d, 7), rfl, ⟨x1.feed hF, (by decide : 1 ≤ 7), (by decide : 7 ≤ 100000)⟩, fun r H2 q2 => ?_⟩
  obtain ⟨⟨way, hway, rfl⟩, x2⟩ := q2
  have x2 : Fd d _ H2 := x2
  have e2 := x2.lst e1
  have y2 := x1.trans x2
  refine ⟨_, _, rfl, ?_⟩
  refine ⟨_, rfl, _, rfl, _, _, rfl, .inl ⟨_, SqL.of e2, rfl⟩, (d, (wds z).length), ?_, ⟨y2.feed hF, hw1, by show (wds z).length ≤ _; omega⟩, fun r H3 q3 => ?_⟩
  · show [V.ref d, V.int ((vS (wds z)).length : Nat)] = _
    rw [List.length_map]
  obtain ⟨⟨k, hk, rfl⟩, x3⟩ := q3
  have x3 : Fd d H2 H3 := x3
  have hk : k < (wds z).length := hk
  have e3 := x3.lst e2
  have y3 := y2.trans x3
  have fin : ∀ (te : TE) (m : Nat) (ss : L2.St), LP d H3 ss te (EL wOk m) → m ≤ n + 1 → tM1 (rJoin K) (tC (.str spcS)) te ss H3 Q := fun te m ss h hm => tp_join (lp_le h hm) (by omega) (by omega) H3 Q (Fd.refl d H3) fun zz H4 hz4 x4 => hQ _ _ ⟨⟨zz, rfl, hz4⟩, y3.trans x4⟩
  obtain ⟨N, hN⟩ : ∃ N, N = (wds z).length := ⟨_, rfl⟩
  have odd : ∀ ss : L2.St, ss[0]? = some (some (V.ref d)) → TP d H3 ss (tFn spOdd E0 (tCons (tVar 0) tNil)) wOk := fun ss h0 H4 Q4 x4 q4 => ⟨_, h0, d, rfl, (y3.trans x4).feed hF, fun r H5 h5 => by
    obtain ⟨⟨zz, rfl, hzz⟩, x5⟩ := h5
    exact q4 zz H5 hzz x5⟩
  dsimp only [gName]
  refine ⟨_, rfl, rfl, _, rfl, ite2 (fun _ => ?_) (fun _ => ?_)⟩
  · refine fin _ _ _ (lp_cat (lp_take rfl e3 hw (ki_v rfl)) (lp_drop (k := k + 1) rfl e3 hw (ki_add (ki_v (k := (k : Nat)) rfl) (ki_c 1))) ?_) ?_ <;> omega
  refine ⟨_, rfl, rfl, _, rfl, ite2 (fun _ => ?_) (fun _ => ?_)⟩
  · refine fin _ _ _ (lp_cat (lp_take (k := k + 1) rfl e3 hw (ki_add (ki_v (k := (k : Nat)) rfl) (ki_c 1))) (lp_drop rfl e3 hw (ki_v rfl)) ?_) ?_ <;> omega
  refine ⟨_, rfl, rfl, _, rfl, ite2 (fun _ => ?_) (fun _ => ?_)⟩
  · refine fin _ _ _ (lp_cat (lp_cat (lp_take rfl e3 hw (ki_v rfl)) (lp_rev (j := 2) rfl e3 hw (ki_v rfl) (ki_add (ki_v (k := (k : Nat)) rfl) (ki_c 2))) ?_) (lp_drop (k := k + 2) rfl e3 hw (ki_add (ki_v (k := (k : Nat)) rfl) (ki_c 2))) ?_) ?_ <;> omega
  refine ⟨_, rfl, rfl, _, rfl, ite2 (fun _ => ?_) (fun _ => ?_)⟩
  · refine fin _ _ _ (lp_cat (lp_var rfl e3 hw) (lp_one (odd _ rfl)) (by omega)) (by omega)
  by_cases hg : decide ((4 : Int) < (way : Nat)) = true
  · refine fin _ _ _ (lp_cat (lp_cat (lp_take rfl e3 hw (ki_v rfl)) (lp_one (odd _ rfl)) (by omega)) (lp_drop (k := k + 1) rfl e3 hw (ki_add (x := (k : Nat)) (y := 1) (ki_v rfl) (fun H4 Q4 q4 => ⟨_, rfl, _, _, rfl, rfl, .inr ⟨_, rfl, ?_⟩⟩))) (by omega)) (by omega)
    rw [if_pos hg]
    exact q4
  · refine fin _ _ _ (lp_cat (lp_cat (lp_take rfl e3 hw (ki_v rfl)) (lp_one (odd _ rfl)) (by omega)) (lp_drop (k := k + 0) rfl e3 hw (ki_add (x := (k : Nat)) (y := 0) (ki_v rfl) (fun H4 Q4 q4 => ⟨_, rfl, _, _, rfl, rfl, .inr ⟨_, rfl, ?_⟩⟩))) (by omega)) (by omega)
    rw [if_neg hg]
    exact q4
end
end Fl

-- KD4
/-! events as the law makes them, lines bent -/
namespace Fl
open PySem PySem.Spec PyProof.Rows L2 TL RZ
abbrev spAnyEvent : Sp := Pr (fun d : Addr => [.ref d]) (fun d H => Feed H d) (fun d H r H' => (∃ z, r = .str z ∧ lOk 5 z) ∧ Fd d H H')
theorem lOk_join2 {a b : Str} (ha : wOk a) (hb : wOk b) : lOk 2 (a ++ spcS ++ b) := by
  have e : Txt.join spcS [a, b] = a ++ spcS ++ b := join_eq _ _
  rw [← e]
  exact lOk_join (fun y hy => by
    rcases List.mem_cons.mp hy with rfl | hy
    · exact ha
    · rw [List.mem_singleton.mp hy]; exact hb) (Nat.le_refl _) (by decide)
def AL (W : Str → Prop) (l : List V) : Prop := ∃ ws : List Str, l = vS ws ∧ (∀ y ∈ ws, W y) ∧ 1 ≤ ws.length ∧ ws.length ≤ 100000
section
variable {d a : Addr} {H0 : Hp} {σ : L2.St} {ta tb te : TE} {W W' : Str → Prop} {k m n i : Nat} {ws : List Str} {K : PySem.W.Frag}
/-- one of the texts of a list -/
theorem tp_any (h : LP d H0 σ te (AL W)) (h0 : σ[0]? = some (some (.ref d))) (hF : Feed H0 d) : TP d H0 σ (tFn (spAny K) E0 (tCons (tVar 0) (tCons te tNil))) W := by
  intro H Q x q
  refine ⟨_, h0, h H _ x fun p l H1 r hp x1 => ?_⟩
  obtain ⟨ws, rfl, hw, h1, h2⟩ := r
  refine ⟨(d, p, vS ws), rfl, ⟨(x.trans x1).feed hF, SqL.of hp, by rw [List.length_map]; exact h1, by rw [List.length_map]; exact h2⟩, fun r H2 h2 => ?_⟩
  obtain ⟨hr, x2⟩ := h2
  obtain ⟨z, hz, rfl⟩ := List.mem_map.mp hr
  exact q z H2 (hw z hz) (x1.trans x2)
theorem al_var (hi : σ[i]? = some (some (.ref a))) (ha : H0 a = some (.lst (vS ws))) (hw : ∀ y ∈ ws, W y) (h1 : 1 ≤ ws.length) (h2 : ws.length ≤ 100000) : LP d H0 σ (tVar i) (AL W) := fun H Q x q => ⟨_, hi, q a _ H ⟨ws, rfl, hw, h1, h2⟩ (x.lst ha) (Fd.refl d H)⟩
/-- texts in a row -/
def AP (d : Addr) (H0 : Hp) (σ : L2.St) (t : TA) (R : List Str → Prop) : Prop := ∀ (H : Hp) (Q : List V → Hp → Prop), Fd d H0 H → (∀ (ws : List Str) (H' : Hp), R ws → Fd d H H' → Q (vS ws) H') → t σ H Q
theorem ap_nil : AP d H0 σ tNil (fun ws => (∀ y ∈ ws, W y) ∧ ws.length = 0) := fun H Q x q => q [] H ⟨fun _ h => (nomatch h), rfl⟩ (Fd.refl d H)
theorem ap_cons {t : TA} (h : TP d H0 σ te W) (ht : AP d H0 σ t (fun ws => (∀ y ∈ ws, W y) ∧ ws.length = n)) : AP d H0 σ (tCons te t) (fun ws => (∀ y ∈ ws, W y) ∧ ws.length = n + 1) := fun H Q x q => h H _ x fun z H1 hz x1 => ht H1 _ (x.trans x1) fun ws H2 hw x2 => q (z :: ws) H2 ⟨fun y hy => by
    rcases List.mem_cons.mp hy with rfl | hy
    · exact hz
    · exact hw.1 y hy, by rw [List.length_cons, hw.2]⟩ (x1.trans x2)
theorem lp_lst {t : TA} (h : AP d H0 σ t (fun ws => (∀ y ∈ ws, W y) ∧ ws.length = n)) (hn : n ≤ 100000) : LP d H0 σ (tLst t) (fun l => ∃ ws : List Str, l = vS ws ∧ (∀ y ∈ ws, W y) ∧ ws.length = n) := fun H Q x q => h H _ x fun ws H1 hw x1 => ⟨by
    have hS : 200000 ≤ sizeLine := by rw [sizeLine_eq]; decide
    have := El_len (Nat.le_of_eq hw.2)
    omega, fun p hp => q p _ _ ⟨ws, rfl, hw.1, hw.2⟩ upd_same (x1.trans (Fd.same (same_upd hp)))⟩
theorem lp_al (h : LP d H0 σ te (fun l => ∃ ws : List Str, l = vS ws ∧ (∀ y ∈ ws, W y) ∧ ws.length = n)) (h1 : 1 ≤ n) (h2 : n ≤ 100000) : LP d H0 σ te (AL W) := h.mono fun l ⟨ws, e, w, b⟩ => ⟨ws, e, w, by omega, by omega⟩
theorem lp_el (h : LP d H0 σ te (fun l => ∃ ws : List Str, l = vS ws ∧ (∀ y ∈ ws, W y) ∧ ws.length = n)) : LP d H0 σ te (EL W n) := h.mono fun l ⟨ws, e, w, b⟩ => ⟨ws, e, w, by omega⟩
theorem tp_mul {z : Str} {n : Int} (hm : MulOk z n) (h : W (Txt.mul z n)) : TP d H0 σ (tOp (fun x y H Q => ∃ z n, x = .str z ∧ y = .int n ∧ MulOk z n ∧ Q (.str (Txt.mul z n)) H) (tC (.str z)) (tC (.int n))) W := fun H Q x q => ⟨z, n, rfl, rfl, hm, q _ H h (Fd.refl d H)⟩
/-- a word ahead -/
abbrev rCS : R2 := fun x y H Q => ∃ i j, x = .str i ∧ y = .str j ∧ i.length + j.length ≤ sizeLine ∧ Q (.str (i ++ j)) H
theorem tp_pre {z a : Str} (e : z = a ++ spcS) (ha : wOk a) (h : TP d H0 σ te wOk) : TP d H0 σ (tOp rCS (tC (.str z)) te) (lOk 2) := fun H Q x q => h H _ x fun y H1 hy x1 => ⟨z, y, rfl, rfl, by
    have hS : 200000 ≤ sizeLine := by rw [sizeLine_eq]; decide
    have hsp : (Str.length spcS) = 1 := by decide +kernel
    have := ha.1
    have := hy.1
    have el : (a ++ spcS).length = a.length + spcS.length := by rw [len_tl, len_tl a, len_tl spcS, tl_append, List.length_append]
    rw [e, el, hsp]
    omega, by
    rw [e]
    exact q _ H1 (lOk_join2 ha hy) x1⟩
end
section
variable {d a : Addr} {H0 : Hp} {σ : L2.St} {ta tb te tk : TE} {W W' : Str → Prop} {k m n i : Nat} {ws : List Str} {K : PySem.W.Frag} {D : Ends} {u : TS} {R : List V → Prop}
theorem ret_tp (h : TP d H0 σ te W) (q : ∀ (z : Str) (H' : Hp), W z → Fd d H0 H' → D.rt (.str z) H') : tRet te D σ H0 := h H0 _ (Fd.refl d H0) q
theorem ret_lp (h : LP d H0 σ te R) (q : ∀ (p : Addr) (l : List V) (H' : Hp), R l → H' p = some (.lst l) → Fd d H0 H' → D.rt (.ref p) H') : tRet te D σ H0 := h H0 _ (Fd.refl d H0) q
theorem asg_lp (h : LP d H0 σ te R) (q : ∀ (p : Addr) (l : List V) (H' : Hp), R l → H' p = some (.lst l) → Fd d H0 H' → u D (σ.set i (some (.ref p))) H') : tSeq (tAsg te (gName i)) u D σ H0 := h H0 _ (Fd.refl d H0) q
theorem asg_tp (h : TP d H0 σ te W) (q : ∀ (z : Str) (H' : Hp), W z → Fd d H0 H' → u D (σ.set i (some (.str z))) H') : tSeq (tAsg te (gName i)) u D σ H0 := h H0 _ (Fd.refl d H0) q
theorem tp_ix (h : LP d H0 σ te (fun l => ∃ ws : List Str, l = vS ws ∧ (∀ y ∈ ws, W y) ∧ ws.length = n)) (hk : KI σ tk (k : Nat)) (hn : k < n) : TP d H0 σ (tOp (rIxL K) te tk) W := fun H Q x q => h H _ x fun p l H1 r hp x1 => hk H1 _ (by
    obtain ⟨ws, rfl, hw, e⟩ := r
    have hk : k < ws.length := by omega
    refine ⟨p, _, _, .str ws[k], rfl, rfl, SqL.of hp, atI_nat ?_, q _ _ (hw _ (List.getElem_mem hk)) x1⟩
    rw [List.getElem?_map, List.getElem?_eq_getElem hk] <;> rfl)
end
abbrev tAnyV (K : PySem.W.Frag) (i : Nat) : TE := tFn (spAny K) E0 (tCons (tVar 0) (tCons (tVar i) tNil))
abbrev teAE1 (K : PySem.W.Frag) : TE := tLst (tCons (tOp rCS (tC (.str "guard ")) (tFn (spAny K) E0 (tCons (tVar 0) (tCons (tLst (tCons (tC (.str "on")) (tCons (tC (.str "off")) tNil))) tNil)))) (tCons (tOp rCS (tC (.str "note ")) (tAnyV K 1)) tNil))
abbrev teAE2 (K : PySem.W.Frag) : TE := tLst (tCons (tC (.str "came")) (tCons (tAnyV K 1) (tCons (tAnyV K 2) (tCons (tAnyV K 1) (tCons (tAnyV K 2) tNil)))))
section
variable {P : Program} {w : World} {K : PySem.W.Frag} {mg : Str → Option Value} {base : Heap}
theorem ok_law_any_event (T : Tx K mg) : OkF P w K mg base CX0 3 "_law_any_event" ["_law_feed_here"] spAnyEvent := by
  have sc : FnScope ["_law_feed_here", "_law_names_here", "_law_some", "_law_way", "_law_words"] ["_law_feed_here"] (defScope (topS 65)) := ⟨rfl, rfl, rfl, by decide +kernel, rfl, by decide +kernel, by decide +kernel⟩
  refine okF T 49 65 rfl sc (fun _ _ _ _ _ _ us hl => match us, hl with | [_], _ => rfl) (fun vs H Q E ⟨_, e, _⟩ => by rw [e] <;> rfl) fun cdv A outer s H vs Q E hr ⟨d, e, hF, hQ⟩ => ?_
  have e : vs = [V.ref d] := e
  subst e
  have hF : Feed H d := hF
  have hS : 200000 ≤ sizeLine := by rw [sizeLine_eq]; decide
  refine ⟨_, PSs.nox (pss_cons (ps_par3 (i := 1) (j := 2) (l := 3) (by rfl) sc.nd rfl rfl rfl (by decide) (by decide) (by decide) rfl rfl rfl (pa_cons (pe_lst (pa_cons pe_str (pa_cons pe_str (pa_cons pe_str (pa_cons pe_str (pa_cons pe_str pa_nil)))))) (pa_cons (pe_lst (pa_cons pe_str (pa_cons pe_str (pa_cons pe_str (pa_cons (pe_op op_mulS pe_str pe_int) (pa_cons pe_str pa_nil)))))) (pa_cons (pe_fn (ok_law_draw T) (hr.mono (by decide)) pass0 (pa_cons (pv 0) (pa_cons pe_int pa_nil))) pa_nil))) (by rfl))
 (pss_cons (ps_if (pt_cmpR op_lt (pv 3) pe_int (nomark _)) (pss_one (ps_ret (pe_ix ix_list (pe_lst (pa_cons (pe_op op_add_str pe_str (pe_fn (ok_law_any T) (hr.mono (by decide)) pass0 (pa_cons (pv 0) (pa_cons (pe_lst (pa_cons pe_str (pa_cons pe_str pa_nil))) pa_nil)))) (pa_cons (pe_op op_add_str pe_str (pe_fn (ok_law_any T) (hr.mono (by decide)) pass0 (pa_cons (pv 0) (pa_cons (pv 1) pa_nil)))) pa_nil))) (pv 3) (fun _ _ => rfl)))) pss_nil)
 (pss_cons (ps_set (i := 4) sc.nd rfl (Or.inl rfl) (pe_lst (pa_cons pe_str (pa_cons (pe_fn (ok_law_any T) (hr.mono (by decide)) pass0 (pa_cons (pv 0) (pa_cons (pv 1) pa_nil))) (pa_cons (pe_fn (ok_law_any T) (hr.mono (by decide)) pass0 (pa_cons (pv 0) (pa_cons (pv 2) pa_nil))) (pa_cons (pe_fn (ok_law_any T) (hr.mono (by decide)) pass0 (pa_cons (pv 0) (pa_cons (pv 1) pa_nil))) (pa_cons (pe_fn (ok_law_any T) (hr.mono (by decide)) pass0 (pa_cons (pv 0) (pa_cons (pv 2) pa_nil))) pa_nil)))))))
 (pss_one (ps_ret (pe_join pe_str (pv 4))))))), ?_⟩
  have hnm : ∀ y ∈ (["a", "zz", "came", "abcdefgh", "on"] : List Str), wOk y := by decide +kernel
  have hnu : ∀ y ∈ (["0", "1", "10", nine60, "12"] : List Str), wOk y := by decide +kernel
  refine ⟨by show 5 ≤ _; omega, fun l1 h1 => ⟨"9", 60, rfl, rfl, mk_960, by show 5 ≤ _; omega, fun l2 h2 => ?_⟩⟩
  have s1 := (same_upd h1 (o := .lst (vS ["a", "zz", "came", "abcdefgh", "on"]))).trans (same_upd h2 (o := .lst (vS ["0", "1", "10", nine60, "12"])))
  have e1 := same_upd h2 (o := .lst (vS ["0", "1", "10", nine60, "12"])) _ _ (upd_same (H := H) (a := l1) (o := .lst (vS ["a", "zz", "came", "abcdefgh", "on"])))
  have e2 := upd_same (H := upd H l1 (.lst (vS ["a", "zz", "came", "abcdefgh", "on"]))) (a := l2) (o := .lst (vS ["0", "1", "10", nine60, "12"]))
  have y1 : Fd d H _ := Fd.same s1
  refine ⟨_, rfl, (d, 4), rfl, ⟨y1.feed hF, (by decide : 1 ≤ 4), (by decide : 4 ≤ 100000)⟩, fun r H2 q2 => ?_⟩
  obtain ⟨⟨way, hway, rfl⟩, x2⟩ := q2
  have x2 : Fd d _ H2 := x2
  have e1 := x2.lst e1
  have e2 := x2.lst e2
  have y2 := y1.trans x2
  have hF2 := y2.feed hF
  refine ⟨_, _, _, rfl, ?_⟩
  have aw : ∀ ss : L2.St, ss[0]? = some (some (V.ref d)) → ss[1]? = some (some (V.ref l1)) → TP d H2 ss (tFn (spAny K) E0 (tCons (tVar 0) (tCons (tVar 1) tNil))) wOk := fun ss a0 a1 => tp_any (al_var a1 e1 hnm (by decide) (by decide)) a0 hF2
  have an : ∀ ss : L2.St, ss[0]? = some (some (V.ref d)) → ss[2]? = some (some (V.ref l2)) → TP d H2 ss (tFn (spAny K) E0 (tCons (tVar 0) (tCons (tVar 2) tNil))) wOk := fun ss a0 a2 => tp_any (al_var a2 e2 hnu (by decide) (by decide)) a0 hF2
  refine ⟨_, rfl, _, _, rfl, rfl, _, rfl, ite2 (fun hw2 => ?_) (fun _ => ?_)⟩
  · have hw2 : ((way : Nat) : Int) < 2 := of_decide_eq_true hw2
    have L1 : ∀ ss : L2.St, ss[0]? = some (some (V.ref d)) → ss[1]? = some (some (V.ref l1)) → LP d H2 ss (teAE1 K) (fun l => ∃ ws : List Str, l = vS ws ∧ (∀ y ∈ ws, lOk 2 y) ∧ ws.length = 2) := fun ss a0 a1 => by
      refine lp_lst (ap_cons (tp_pre (a := "guard") (by decide +kernel) (by decide +kernel) (tp_any ?_ a0 hF2)) (ap_cons (tp_pre (a := "note") (by decide +kernel) (by decide +kernel) (aw ss a0 a1)) ap_nil)) (by decide)
      exact lp_al (n := 2) (lp_lst (ap_cons (W := wOk) (tp_c (by decide +kernel)) (ap_cons (tp_c (by decide +kernel)) ap_nil)) (by decide)) (by decide) (by decide)
    exact ret_tp (tp_ix (L1 _ rfl rfl) (ki_v rfl) (by omega)) fun z H3 hz x3 => hQ _ _ ⟨⟨_, rfl, hz.mono (by decide)⟩, y2.trans x3⟩
  have L2 : ∀ ss : L2.St, ss[0]? = some (some (V.ref d)) → ss[1]? = some (some (V.ref l1)) → ss[2]? = some (some (V.ref l2)) → LP d H2 ss (teAE2 K) (fun l => ∃ ws : List Str, l = vS ws ∧ (∀ y ∈ ws, wOk y) ∧ ws.length = 5) := fun ss a0 a1 a2 =>
    lp_lst (ap_cons (W := wOk) (tp_c (by decide +kernel)) (ap_cons (aw ss a0 a1) (ap_cons (an ss a0 a2) (ap_cons (aw ss a0 a1) (ap_cons (an ss a0 a2) ap_nil))))) (by decide)
  refine asg_lp (L2 _ rfl rfl rfl) fun p l H3 r3 h3 x3 => ?_
  obtain ⟨ws, rfl, hw, hn⟩ := r3
  exact ret_tp (tp_join (K := K) (lp_le (lp_var rfl h3 hw) (Nat.le_of_eq hn)) (by decide) (by decide)) fun z H4 hz x4 => hQ _ _ ⟨⟨_, rfl, hz⟩, (y2.trans x3).trans x4⟩
end
end Fl

-- KD5
/-! lines bent -/
namespace Fl
open PySem PySem.Spec PyProof.Rows L2 TL RZ
structure BtIn (H : Hp) (d a : Addr) (ls : List Str) (n : Nat) : Prop where
  f : Feed H d
  l : H a = some (.lst (vS ls))
  w : ∀ y ∈ ls, lOk n y
  n4 : 4 ≤ n
  n1 : n ≤ 100
  m : ls.length ≤ 1000
abbrev spBent : Sp := Pr (fun q : Addr × Addr × List Str × Nat => [.ref q.1, .ref q.2.1]) (fun q H => BtIn H q.1 q.2.1 q.2.2.1 q.2.2.2)
  (fun q H r H' => (∃ p ls', r = .ref p ∧ H' p = some (.lst (vS ls')) ∧ (∀ y ∈ ls', lOk (q.2.2.2 + 1) y) ∧ ls'.length ≤ q.2.2.1.length + 1) ∧ Fd q.1 H H')
section
variable {d a : Addr} {H0 : Hp} {σ : L2.St} {ta tb te tk : TE} {W W' : Str → Prop} {k m n i : Nat} {ws : List Str} {K : PySem.W.Frag} {t : TA}
theorem el_mono {l : List V} (h : EL W n l) (q : ∀ z, W z → W' z) : EL W' n l := by
  obtain ⟨ws, e, w, b⟩ := h
  exact ⟨ws, e, fun y hy => q y (w y hy), b⟩
theorem lp_w (h : LP d H0 σ te (EL W n)) (q : ∀ z, W z → W' z) : LP d H0 σ te (EL W' n) := h.mono fun _ r => el_mono r q
/-- lists of one text each, in a row -/
def BP (d : Addr) (H0 : Hp) (σ : L2.St) (t : TA) (W : Str → Prop) (n : Nat) : Prop := ∀ (H : Hp) (Q : List V → Hp → Prop), Fd d H0 H → (∀ (vs : List V) (H' : Hp), (∀ v ∈ vs, ∃ p l, v = .ref p ∧ H' p = some (.lst l) ∧ EL W 1 l) → vs.length = n → Fd d H H' → Q vs H') → t σ H Q
theorem bp_nil : BP d H0 σ tNil W 0 := fun H Q x q => q [] H (fun _ h => (nomatch h)) rfl (Fd.refl d H)
theorem bp_cons (h : LP d H0 σ te (EL W 1)) (ht : BP d H0 σ t W n) : BP d H0 σ (tCons te t) W (n + 1) := fun H Q x q => h H _ x fun p l H1 r hp x1 => ht H1 _ (x.trans x1) fun vs H2 hv hn x2 => q (.ref p :: vs) H2 (fun v hm => by
    rcases List.mem_cons.mp hm with rfl | hm
    · exact ⟨p, l, rfl, x2.lst hp, r⟩
    · exact hv v hm) (by rw [List.length_cons, hn]) (x1.trans x2)
theorem lp_anyL (h : BP d H0 σ t W n) (h1 : 1 ≤ n) (h2 : n ≤ 100000) (h0 : σ[0]? = some (some (.ref d))) (hF : Feed H0 d) : LP d H0 σ (tFn (spAny K) E0 (tCons (tVar 0) (tCons (tLst t) tNil))) (EL W 1) := by
  have hS : 200000 ≤ sizeLine := by rw [sizeLine_eq]; decide
  intro H Q x q
  refine ⟨_, h0, h H _ x fun vs H1 hv hn x1 => ⟨by omega, fun p hp => ?_⟩⟩
  have s1 : Same H1 (upd H1 p (.lst vs)) := same_upd hp
  refine ⟨(d, p, vs), rfl, ⟨((x.trans x1).trans (Fd.same s1)).feed hF, SqL.of upd_same, by show 1 ≤ vs.length; omega, by show vs.length ≤ _; omega⟩, fun r H2 h2 => ?_⟩
  obtain ⟨hr, x2⟩ := h2
  obtain ⟨p2, l, rfl, hl, hE⟩ := hv r hr
  exact q p2 l H2 hE (x2.lst (s1 _ _ hl)) ((x1.trans (Fd.same s1)).trans x2)
abbrev rSplit : V → List V → Hp → VK → Prop := fun x xs H Q => ∃ a b, x = .str a ∧ xs = [.str b] ∧ (b.length == 0) = false ∧ a.length + 2 ≤ sizeLine ∧ rNewStrs (Txt.split a b) H Q
theorem lp_split (h : TP d H0 σ te (lOk n)) (hn : n ≤ 1000) : LP d H0 σ (tM1 rSplit te (tC (.str spcS))) (EL wOk n) := fun H Q x q => h H _ x fun z H1 hz x1 => ⟨⟨_, rfl⟩, z, spcS, rfl, rfl, rfl, by
    have hS : 200000 ≤ sizeLine := by rw [sizeLine_eq]; decide
    have := hz.len
    omega, fun p hp => q p _ _ ⟨wds z, rfl, hz.w, hz.n⟩ upd_same (x1.trans (Fd.same (same_upd hp)))⟩
theorem tp_at (hi : σ[i]? = some (some (.ref a))) (ha : H0 a = some (.lst (vS ws))) (hw : ∀ y ∈ ws, W y) (hk : KI σ tk (k : Nat)) (hn : k < ws.length) : TP d H0 σ (tOp (rIxL K) (tVar i) tk) W := fun H Q x q => ⟨_, hi, hk H _ (by
    refine ⟨a, _, _, .str ws[k], rfl, rfl, SqL.of (x.lst ha), atI_nat ?_, q _ _ (hw _ (List.getElem_mem hn)) (Fd.refl d H)⟩
    rw [List.getElem?_map, List.getElem?_eq_getElem hn] <;> rfl)⟩
abbrev rStrI : List V → Hp → VK → Prop := fun xs H Q => ∃ i : Int, xs = [.int i] ∧ i.natAbs.log2 < 1920 ∧ Q (.str (toString i)) H
theorem digit_ok : ∀ k : Nat, k < 8 → wOk (Str.ofString (toString ((k : Nat) : Int))) ∧ ((k : Nat) : Int).natAbs.log2 < 1920 := by decide +kernel
theorem tp_digit (h0 : σ[0]? = some (some (.ref d))) (hF : Feed H0 d) : TP d H0 σ (tCB rStrI (tCons (tFn spDraw E0 (tCons (tVar 0) (tCons (tC (.int 8)) tNil))) tNil)) wOk := fun H Q x q => ⟨_, h0, (d, 8), rfl, ⟨x.feed hF, (by decide : 1 ≤ 8), (by decide : 8 ≤ 100000)⟩, fun r H1 q1 => by
    obtain ⟨⟨k, hk, rfl⟩, x1⟩ := q1
    exact ⟨_, rfl, (digit_ok k hk).2, q _ H1 (digit_ok k hk).1 x1⟩⟩
theorem tp_bentLine (h : TP d H0 σ te (lOk n)) (hn : n ≤ 100) (h0 : σ[0]? = some (some (.ref d))) (hF : Feed H0 d) : TP d H0 σ (tFn spBentLine E0 (tCons (tVar 0) (tCons te tNil))) (lOk (n + 1)) := fun H Q x q => ⟨_, h0, h H _ x fun z H1 hz x1 => ⟨(d, z, n), rfl, ⟨(x.trans x1).feed hF, hz, hn⟩, fun r H2 q2 => by
    obtain ⟨⟨z2, rfl, hz2⟩, x2⟩ := q2
    exact q z2 H2 hz2 (x1.trans x2)⟩⟩
end
theorem lOk_of {ws : List Str} {n : Nat} {z : Str} (e : wds z = ws) (h : ∀ y ∈ ws, wOk y) (hl : ws.length ≤ n) : lOk n z := ⟨by rw [e]; exact hl, by rw [e]; exact h⟩
theorem bent1 : lOk 5 "" := lOk_of (ws := [""]) (by decide +kernel) (by decide +kernel) (by decide)
theorem bent2 : lOk 5 "asker a" := lOk_of (ws := ["asker", "a"]) (by decide +kernel) (by decide +kernel) (by decide)
theorem bent3 : lOk 5 "kind a 1 not -" := lOk_of (ws := ["kind", "a", "1", "not", "-"]) (by decide +kernel) (by decide +kernel) (by decide)
theorem bent4 : lOk 5 " " := lOk_of (ws := ["", ""]) (by decide +kernel) (by decide +kernel) (by decide)
section
variable {P : Program} {w : World} {K : PySem.W.Frag} {mg : Str → Option Value} {base : Heap}
theorem ok_law_bent (T : Tx K mg) : OkF P w K mg base CX0 5 "_law_bent" ["_law_feed_here", "_law_lines_here"] spBent := by
  have sc : FnScope ["_law_feed_here", "_law_lines_here", "_law_way", "_law_k", "_law_words"] ["_law_feed_here", "_law_lines_here"] (defScope (topS 64)) := ⟨rfl, rfl, rfl, by decide +kernel, rfl, by decide +kernel, by decide +kernel⟩
  refine okF T 48 64 rfl sc (fun _ _ _ _ _ _ us hl => match us, hl with | [_, _], _ => rfl) (fun vs H Q E ⟨_, e, _⟩ => by rw [e] <;> rfl) fun cdv A outer s H vs Q E hr ⟨⟨d, a, ls, n⟩, e, hI, hQ⟩ => ?_
  have e : vs = [V.ref d, V.ref a] := e
  subst e
  have hI : BtIn H d a ls n := hI
  have hF := hI.f
  have hl := hI.l
  have hw := fun y hy => (hI.w y hy).mono (Nat.le_add_right n 1)
  have n4 := hI.n4
  have n1 := hI.n1
  have hm := hI.m
  have hS : 200000 ≤ sizeLine := by rw [sizeLine_eq]; decide
  refine ⟨_, PSs.nox (pss_cons (ps_par (i := 2) (j := 3) (by rfl) sc.nd rfl rfl (by decide) rfl rfl (pa_cons (pe_fn (ok_law_draw T) (hr.mono (by decide)) pass0 (pa_cons (pv 0) (pa_cons pe_int pa_nil))) (pa_cons (pe_fn (ok_law_draw T) (hr.mono (by decide)) pass0 (pa_cons (pv 0) (pa_cons (pe_callB (call_max2 rfl) rfl (T.bl (x := "max")) (by decide +kernel) (pa_cons pe_int (pa_cons (pe_callB call_len rfl (T.bl (x := "len")) (by decide +kernel) (pa_cons (pv 1) pa_nil)) pa_nil))) pa_nil))) pa_nil)) (by rfl))
 (pss_cons (ps_if (PW.pt (pw_or (pt_cmpR (op_eqD hr.units) (pv 1) (pe_lst pa_nil) (nomark _)) (pw_or1 (pt_cmpR op_eq (pv 2) pe_int (nomark _))))) (pss_one (ps_ret (pe_op op_cat (pe_slice sl_list (pv 1) po_none (po_some (pv 3))) (pe_slice sl_list (pv 1) (po_some (pe_op op_add (pv 3) pe_int)) po_none)))) pss_nil)
 (pss_cons (ps_if (pt_cmpR op_eq (pv 2) pe_int (nomark _)) (pss_one (ps_ret (pe_op op_cat (pe_slice sl_list (pv 1) po_none (po_some (pe_op op_add (pv 3) pe_int))) (pe_slice sl_list (pv 1) (po_some (pv 3)) po_none)))) pss_nil)
 (pss_cons (ps_if (pt_cmpR op_eq (pv 2) pe_int (nomark _)) (pss_one (ps_ret (pe_op op_cat (pe_op op_cat (pe_slice sl_list (pv 1) po_none (po_some (pv 3))) (pe_revL (pe_slice sl_list (pv 1) (po_some (pv 3)) (po_some (pe_op op_add (pv 3) pe_int))))) (pe_slice sl_list (pv 1) (po_some (pe_op op_add (pv 3) pe_int)) po_none)))) pss_nil)
 (pss_cons (ps_if (pt_cmpR op_eq (pv 2) pe_int (nomark _)) (pss_one (ps_ret (pe_op op_cat (pe_op op_cat (pe_slice sl_list (pv 1) po_none (po_some (pv 3))) (pe_fn (ok_law_any T) (hr.mono (by decide)) pass0 (pa_cons (pv 0) (pa_cons (pe_lst (pa_cons (pe_lst (pa_cons pe_str pa_nil)) (pa_cons (pe_lst (pa_cons pe_str pa_nil)) (pa_cons (pe_lst (pa_cons pe_str pa_nil)) (pa_cons (pe_lst (pa_cons pe_str pa_nil)) pa_nil))))) pa_nil)))) (pe_slice sl_list (pv 1) (po_some (pv 3)) po_none)))) pss_nil)
 (pss_cons (ps_if (pt_cmpR op_eq (pv 2) pe_int (nomark _)) (pss_one (ps_ret (pe_slice sl_list (pv 1) po_none (po_some (pv 3))))) pss_nil)
 (pss_cons (ps_if (pt_cmpR op_eq (pv 2) pe_int (nomark _)) (pss_cons (ps_set (i := 4) sc.nd rfl (Or.inl rfl) (pe_split (pe_ix ix_list (pv 1) pe_int (fun _ _ => rfl)) pe_str))
 (pss_one (ps_ret (pe_op op_cat (pe_lst (pa_cons (pe_join pe_str (pe_op op_cat (pe_slice sl_list (pv 4) po_none (po_some pe_int)) (pe_lst (pa_cons (pe_callTy call_str_int rfl (T.bl (x := "str")) (by decide +kernel) (pa_cons (pe_fn (ok_law_draw T) (hr.mono (by decide)) pass0 (pa_cons (pv 0) (pa_cons pe_int pa_nil))) pa_nil)) pa_nil)))) pa_nil)) (pe_slice sl_list (pv 1) (po_some pe_int) po_none))))) pss_nil)
 (pss_one (ps_ret (pe_op op_cat (pe_op op_cat (pe_slice sl_list (pv 1) po_none (po_some (pv 3))) (pe_lst (pa_cons (pe_fn (ok_law_bent_line T) (hr.mono (by decide)) pass0 (pa_cons (pv 0) (pa_cons (pe_ix ix_list (pv 1) (pv 3) (fun _ _ => rfl)) pa_nil))) pa_nil))) (pe_slice sl_list (pv 1) (po_some (pe_op op_add (pv 3) pe_int)) po_none))))))))))), ?_⟩
  refine ⟨_, rfl, (d, 9), rfl, ⟨hF, (by decide : 1 ≤ 9), (by decide : 9 ≤ 100000)⟩, fun r H1 q1 => ?_⟩
  obtain ⟨⟨way, hway, rfl⟩, x1⟩ := q1
  have x1 : Fd d H H1 := x1
  have e1 := x1.lst hl
  refine ⟨_, rfl, _, rfl, _, _, rfl, .inl ⟨_, SqL.of e1, rfl⟩, _, _, rfl, (d, max 1 ls.length), ?_, ⟨x1.feed hF, by show 1 ≤ max 1 ls.length; omega, by show max 1 ls.length ≤ _; omega⟩, fun r H2 q2 => ?_⟩
  · show [V.ref d, V.int (if ((vS ls).length : Int) > 1 then ((vS ls).length : Int) else 1)] = [V.ref d, V.int ((max 1 ls.length : Nat) : Int)]
    have e : (if ((vS ls).length : Int) > 1 then ((vS ls).length : Int) else 1) = ((max 1 ls.length : Nat) : Int) := by
      rw [List.length_map]
      split <;> omega
    rw [e]
  obtain ⟨⟨k, hk, rfl⟩, x2⟩ := q2
  have x2 : Fd d H1 H2 := x2
  have hk : k < max 1 ls.length := hk
  have e2 := x2.lst e1
  have y2 := x1.trans x2
  have hF2 := y2.feed hF
  refine ⟨_, _, rfl, ?_⟩
  dsimp only [gName]
  have fin : ∀ (te : TE) (m : Nat) (ss : L2.St) (D : Ends) (H3 : Hp), D.rt = Q → Same H2 H3 → LP d H3 ss te (EL (lOk (n + 1)) m) → m ≤ ls.length + 1 → tRet te D ss H3 := fun te m ss D H3 eD s3 h hm' => ret_lp h fun p l H4 r4 h4 x4 => by
    obtain ⟨ls', rfl, hw', hn'⟩ := r4
    rw [eD]
    exact hQ _ _ ⟨⟨p, ls', rfl, h4, hw', Nat.le_trans hn' hm'⟩, (y2.trans (Fd.same s3)).trans x4⟩
  have go0 : ∀ (D : Ends) (H3 : Hp) (ss : L2.St), D.rt = Q → Same H2 H3 → ss[1]? = some (some (V.ref a)) → ss[3]? = some (some (V.int (k : Nat))) → tRet (tOp rCat (tSl (rSlL K) (tVar 1) tNoPart (tPart (tVar 3))) (tSl (rSlL K) (tVar 1) (tPart (tOp (rI0 fun i j => V.int (i + j)) (tVar 3) (tC (V.int 1)))) tNoPart)) D ss H3 := fun D H3 ss eD s3 a1 a3 =>
    fin _ _ _ _ _ eD s3 (lp_cat (lp_take a1 (s3 _ _ e2) hw (ki_v a3)) (lp_drop (k := k + 1) a1 (s3 _ _ e2) hw (ki_add (ki_v (k := (k : Nat)) a3) (ki_c 1))) (by omega)) (by omega)
  refine ⟨_, rfl, Nat.zero_le _, fun l0 hl0 => ⟨.list (ls.map .str), .list [], dp_list (SqL.of (same_upd hl0 _ _ e2)), .lst (SqL.of upd_same) .nil, shaped_texts (fun y hy => (hI.w y hy).sok), rfl, _, rfl, ?_⟩⟩
  have s3 : Same H2 (upd H2 l0 (.lst [])) := same_upd hl0
  obtain ⟨H3, hH3⟩ : ∃ H3, H3 = upd H2 l0 (.lst []) := ⟨_, rfl⟩
  have e3 := s3 _ _ e2
  rw [eqv_nil]
  subst hH3
  have y3 : Fd d H2 (upd H2 l0 (.lst [])) := Fd.same s3
  by_cases hnil : (ls.map PyData.str).isEmpty = true
  · exact ite_t hnil (ite_t rfl (go0 _ _ _ rfl s3 rfl rfl))
  have hne : 1 ≤ ls.length := by
    cases ls with
    | nil => exact absurd rfl hnil
    | cons _ _ => exact Nat.le_add_left 1 _
  have hk : k < ls.length := by omega
  refine ite_f (Bool.eq_false_iff.mpr hnil) ?_
  have hF3 := y3.feed hF2
  refine ⟨_, rfl, rfl, _, rfl, ite2 (fun _ => ?_) (fun _ => ?_)⟩
  · exact go0 _ _ _ rfl s3 rfl rfl
  refine ⟨_, rfl, rfl, _, rfl, ite2 (fun _ => ?_) (fun _ => ?_)⟩
  · exact fin _ _ _ _ _ rfl s3 (lp_cat (lp_take (k := k + 1) rfl e3 hw (ki_add (ki_v (k := (k : Nat)) rfl) (ki_c 1))) (lp_drop rfl e3 hw (ki_v rfl)) (by omega)) (by omega)
  refine ⟨_, rfl, rfl, _, rfl, ite2 (fun _ => ?_) (fun _ => ?_)⟩
  · exact fin _ _ _ _ _ rfl s3 (lp_cat (lp_cat (lp_take rfl e3 hw (ki_v rfl)) (lp_rev (j := 2) rfl e3 hw (ki_v rfl) (ki_add (ki_v (k := (k : Nat)) rfl) (ki_c 2))) (by omega)) (lp_drop (k := k + 2) rfl e3 hw (ki_add (ki_v (k := (k : Nat)) rfl) (ki_c 2))) (by omega)) (by omega)
  refine ⟨_, rfl, rfl, _, rfl, ite2 (fun _ => ?_) (fun _ => ?_)⟩
  · have one : ∀ (z : Str) (ss : L2.St), lOk 5 z → LP d (upd H2 l0 (.lst [])) ss (tLst (tCons (tC (.str z)) tNil)) (EL (lOk (n + 1)) 1) := fun z ss hz => lp_one (tp_c (hz.mono (by omega)))
    exact fin _ _ _ _ _ rfl s3 (lp_cat (lp_cat (lp_take rfl e3 hw (ki_v rfl)) (lp_anyL (bp_cons (one _ _ bent1) (bp_cons (one _ _ bent2) (bp_cons (one _ _ bent3) (bp_cons (one _ _ bent4) bp_nil)))) (by decide) (by decide) rfl hF3) (by omega)) (lp_drop rfl e3 hw (ki_v rfl)) (by omega)) (by omega)
  refine ⟨_, rfl, rfl, _, rfl, ite2 (fun _ => ?_) (fun _ => ?_)⟩
  · exact fin _ _ _ _ _ rfl s3 (lp_take rfl e3 hw (ki_v rfl)) (by omega)
  refine ⟨_, rfl, rfl, _, rfl, ite2 (fun _ => ?_) (fun _ => ?_)⟩
  · refine asg_lp (d := d) (lp_split (tp_at (k := 0) rfl e3 hI.w (ki_c 0) hne) (by omega)) fun p l H4 r4 h4 x4 => ?_
    obtain ⟨ws, rfl, hws, hwn⟩ := r4
    have e4 := x4.lst e3
    have hF4 := x4.feed hF3
    refine ret_lp (d := d) (R := EL (lOk (n + 1)) (1 + (ls.length - 1))) (lp_cat (lp_one ((tp_join (n := 4 + 1) (lp_cat (lp_take (k := 4) rfl h4 hws (ki_c 4)) (lp_one (tp_digit rfl hF4)) (by omega)) (by omega) (by omega)).mono fun z hz => hz.mono (by omega))) (lp_drop (k := 1) rfl e4 hw (ki_c 1)) (by omega)) fun p2 l2 H5 r5 h5 x5 => ?_
    obtain ⟨ls', rfl, hw', hn'⟩ := r5
    exact hQ _ _ ⟨⟨p2, ls', rfl, h5, hw', by show ls'.length ≤ ls.length + 1; omega⟩, ((y2.trans y3).trans x4).trans x5⟩
  exact fin _ _ _ _ _ rfl s3 (lp_cat (lp_cat (lp_take rfl e3 hw (ki_v rfl)) (lp_one (tp_bentLine (tp_at rfl e3 hI.w (ki_v rfl) hk) n1 rfl hF3)) (by omega)) (lp_drop (k := k + 1) rfl e3 hw (ki_add (ki_v (k := (k : Nat)) rfl) (ki_c 1))) (by omega)) (by omega)
end
end Fl

-- KD6
/-! names as the law draws them -/
namespace Fl
open PySem PySem.Spec PyProof.Rows L2 TL RZ
theorem pig : ∀ (xs fs : List Str), xs.Nodup → (∀ x ∈ xs, x ∈ fs) → xs.length ≤ fs.length
  | [], _, _, _ => Nat.zero_le _
  | x :: r, fs, hn, h => by
    have hx : x ∈ fs := h x List.mem_cons_self
    have hn2 := List.nodup_cons.mp hn
    have ih := pig r (fs.erase x) hn2.2 fun y hy => (List.mem_erase_of_ne (fun e : y = x => hn2.1 (by rw [← e]; exact hy))).mpr (h y (List.mem_cons_of_mem _ hy))
    have hl := List.length_erase_of_mem hx
    have hp : 0 < fs.length := List.length_pos_of_mem hx
    rw [List.length_cons]
    omega
section
variable {d a D : Addr} {H0 : Hp} {σ : L2.St} {te tk : TE} {ta : TA} {W W' : Str → Prop} {k m n i : Nat} {ws : List Str} {K : PySem.W.Frag}
theorem el_snoc {W : Str → Prop} {n : Nat} {l : List V} {z : Str} (h : EL W n l) (hz : W z) : EL W (n + 1) (l ++ [V.str z]) := by
  obtain ⟨ws, rfl, w, b⟩ := h
  refine ⟨ws ++ [z], vS_app ws [z], fun y hy => ?_, by rw [List.length_append, List.length_singleton]; omega⟩
  rcases List.mem_append.mp hy with hy | hy
  · exact w y hy
  · rw [List.mem_singleton.mp hy]; exact hz
/-- a comprehension over a range -/
theorem lp_lcR {vs : List Nat} (hta : ∀ (H : Hp) (Q : List V → Hp → Prop), Fd d H0 H → (∀ (j : Nat) (H' : Hp), j ≤ n → Fd d H H' → Q [.int (j : Nat)] H') → ta σ H Q) (hn : n ≤ 100000) (hw : ∀ x, wipe ((wipe σ vs).set i (some x)) vs = wipe σ vs)
    (hel : ∀ x, TP d H0 ((wipe σ vs).set i (some x)) te W) : LP d H0 σ (tLc (iRng1 ta) (gName i) tYes te vs) (EL W n) := by
  have hS : 200000 ≤ sizeLine := by rw [sizeLine_eq]; decide
  intro H Q x q
  refine hta H _ x fun j H1 hj x1 => ⟨(j : Nat), rfl, by omega, by omega, fun D hD => ?_⟩
  have et : ((j : Nat) : Int).toNat = j := Int.toNat_natCast j
  rw [et]
  refine lcw (n := j) walk_range (fram_fd d) hD (by omega) (fun _ _ => trivial) (fun i acc _ => EL W i acc) (fun _ _ _ _ _ h => h) ⟨[], rfl, fun _ h => (nomatch h), Nat.le_refl _⟩ (fun i0 x0 acc H2 H3 hi r y hI hacc Zk Zs hk hz => ?_) (fun H2 acc r hacc hI => ?_)
  · obtain ⟨rfl, _⟩ := y
    exact ⟨hw x0, yes_turn (hel x0 _ _ ((x.trans x1).trans r) fun z H4 hz4 x4 => hk (.str z) H4 x4 (el_snoc hI hz4))⟩
  · obtain ⟨ws, e, w, b⟩ := hI
    exact q D acc H2 ⟨ws, e, w, by omega⟩ hacc (x1.trans r)
end
/-! ### lists of lists -/
section
variable {d a D : Addr} {H0 : Hp} {σ : L2.St} {te tk tb ta : TE} {t : TA} {W W' : Str → Prop} {k m n i : Nat} {ws : List Str} {K : PySem.W.Frag} {R : List V → Prop} {xs : List V}
def Lsts (H : Hp) (R : List V → Prop) (vs : List V) : Prop := ∀ v ∈ vs, ∃ p l, v = V.ref p ∧ H p = some (.lst l) ∧ R l
theorem lsts_fd {H H' : Hp} {vs : List V} (x : Fd d H H') (h : Lsts H R vs) : Lsts H' R vs := fun v hv => by
  obtain ⟨p, l, e, hp, r⟩ := h v hv
  exact ⟨p, l, e, x.lst hp, r⟩
def BR (d : Addr) (H0 : Hp) (σ : L2.St) (t : TA) (R : List V → Prop) (n : Nat) : Prop := ∀ (H : Hp) (Q : List V → Hp → Prop), Fd d H0 H → (∀ (vs : List V) (H' : Hp), Lsts H' R vs → vs.length = n → Fd d H H' → Q vs H') → t σ H Q
def LH (d : Addr) (H0 : Hp) (σ : L2.St) (te : TE) (R : List V → Prop) (n : Nat) : Prop := ∀ (H : Hp) (Q : VK), Fd d H0 H → (∀ (p : Addr) (vs : List V) (H' : Hp), Lsts H' R vs → vs.length = n → H' p = some (.lst vs) → Fd d H H' → Q (.ref p) H') → te σ H Q
theorem br_nil : BR d H0 σ tNil R 0 := fun H Q x q => q [] H (fun _ h => (nomatch h)) rfl (Fd.refl d H)
theorem br_cons (h : LP d H0 σ te R) (ht : BR d H0 σ t R n) : BR d H0 σ (tCons te t) R (n + 1) := fun H Q x q => h H _ x fun p l H1 r hp x1 => ht H1 _ (x.trans x1) fun vs H2 hv hn x2 => q (.ref p :: vs) H2 (fun v hm => by
    rcases List.mem_cons.mp hm with rfl | hm
    · exact ⟨p, l, rfl, x2.lst hp, r⟩
    · exact hv v hm) (by rw [List.length_cons, hn]) (x1.trans x2)
theorem lh_lst (h : BR d H0 σ t R n) (hn : n ≤ 100000) : LH d H0 σ (tLst t) R n := by
  have hS : 200000 ≤ sizeLine := by rw [sizeLine_eq]; decide
  exact fun H Q x q => h H _ x fun vs H1 hv e x1 => ⟨by omega, fun p hp => q p vs _ (lsts_fd (Fd.same (d := d) (same_upd hp)) hv) e upd_same (x1.trans (Fd.same (same_upd hp)))⟩
theorem lh_var (hi : σ[i]? = some (some (.ref a))) (ha : H0 a = some (.lst xs)) (hx : Lsts H0 R xs) : LH d H0 σ (tVar i) R xs.length := fun H Q x q => ⟨_, hi, q a xs H (lsts_fd x hx) rfl (x.lst ha) (Fd.refl d H)⟩
theorem lh_cat (ha : LH d H0 σ ta R m) (hb : LH d H0 σ tb R n) (h : m + n ≤ 200000) : LH d H0 σ (tOp rCat ta tb) R (m + n) := by
  have hS : 200000 ≤ sizeLine := by rw [sizeLine_eq]; decide
  intro H Q x q
  refine ha H _ x fun p l H1 r1 n1 h1 x1 => hb H1 _ (x.trans x1) fun p2 l2 H2 r2 n2 h2 x2 => ⟨p, p2, _, _, rfl, rfl, x2.lst h1, h2, by omega, fun p3 h3 => ?_⟩
  have s3 : Fd d H2 (upd H2 p3 (.lst (l ++ l2))) := Fd.same (same_upd h3)
  refine q p3 (l ++ l2) _ (fun v hv => ?_) (by rw [List.length_append]; omega) upd_same ((x1.trans x2).trans s3)
  rcases List.mem_append.mp hv with hv | hv
  · exact lsts_fd (x2.trans s3) r1 v hv
  · exact lsts_fd s3 r2 v hv
theorem lp_anyH (h : LH d H0 σ te R n) (h1 : 1 ≤ n) (h2 : n ≤ 100000) (h0 : σ[0]? = some (some (.ref d))) (hF : Feed H0 d) : LP d H0 σ (tFn (spAny K) E0 (tCons (tVar 0) (tCons te tNil))) R := by
  intro H Q x q
  refine ⟨_, h0, h H _ x fun p vs H1 hv hn hp x1 => ⟨(d, p, vs), rfl, ⟨(x.trans x1).feed hF, SqL.of hp, by show 1 ≤ vs.length; omega, by show vs.length ≤ _; omega⟩, fun r H2 h2 => ?_⟩⟩
  obtain ⟨hr, x2⟩ := h2
  obtain ⟨p2, l, rfl, hl, hE⟩ := hv r hr
  exact q p2 l H2 hE (x2.lst hl) (x1.trans x2)
/-- a draw as a number -/
theorem asg_draw {D : Ends} {u : TS} {j : Nat} (h0 : σ[j]? = some (some (.ref d))) (hF : Feed H0 d) (h1 : 1 ≤ m) (h2 : m ≤ 100000) (q : ∀ (k : Nat) (H' : Hp), k < m → Fd d H0 H' → u D (σ.set i (some (.int (k : Nat)))) H') : tSeq (tAsg (tFn spDraw E0 (tCons (tVar j) (tCons (tC (.int (m : Nat))) tNil))) (gName i)) u D σ H0 := ⟨_, h0, (d, m), rfl, ⟨hF, h1, h2⟩, fun r H1 q1 => by
    obtain ⟨⟨k, hk, rfl⟩, x1⟩ := q1
    exact q k H1 hk x1⟩
end
/-! ### small letters -/
def letOk (z : Str) : Prop := z.length = 1 ∧ ∀ c ∈ tl z, 97 ≤ c ∧ c ≤ 122
instance (z : Str) : Decidable (letOk z) := inferInstanceAs (Decidable (_ ∧ _))
def nmOk (z : Str) : Prop := z.length ≤ 8 ∧ ∀ c ∈ tl z, 97 ≤ c ∧ c ≤ 122
instance (z : Str) : Decidable (nmOk z) := inferInstanceAs (Decidable (_ ∧ _))
theorem nmOk.w {z : Str} (h : nmOk z) : wOk z := ⟨Nat.le_trans h.1 (by decide), fun c hc => by
  have := h.2 c hc
  omega⟩
abbrev spNames : Sp := Pr (fun d : Addr => [.ref d]) (fun d H => Feed H d) (fun d H r H' => (∃ p ws, r = .ref p ∧ H' p = some (.lst (vS ws)) ∧ ws.length = 4 ∧ ∀ y ∈ ws, nmOk y) ∧ Fd d H H')
theorem letOk.n {z : Str} (h : letOk z) : nmOk z := ⟨by rw [h.1]; decide, h.2⟩
theorem joinL_empty : ∀ parts : List (List Nat), joinL [] parts = parts.flatten
  | [] => rfl
  | [p] => by simp [joinL]
  | p :: q :: r => by
    have ih := joinL_empty (q :: r)
    show p ++ ([] ++ joinL [] (q :: r)) = _
    rw [ih]
    rfl
theorem join_let {ws : List Str} (h : ∀ y ∈ ws, letOk y) (hl : ws.length ≤ 8) : nmOk (Txt.join "" ws) := by
  have e : tl (Txt.join "" ws) = (ws.map tl).flatten := by
    rw [join_eq, tl_join]
    exact joinL_empty _
  have hsum : ∀ us : List Str, (∀ y ∈ us, letOk y) → ((us.map tl).flatten).length = us.length := by
    intro us
    induction us with
    | nil => intro _; rfl
    | cons x r ih =>
      intro hu
      have h1 := (hu x List.mem_cons_self).1
      rw [len_tl] at h1
      rw [List.map_cons, List.flatten_cons, List.length_append, h1, ih fun y hy => hu y (List.mem_cons_of_mem _ hy), List.length_cons]
      omega
  refine ⟨by rw [len_tl, e, hsum ws h]; exact hl, fun c hc => ?_⟩
  rw [e] at hc
  obtain ⟨l, hl, hc⟩ := List.mem_flatten.mp hc
  obtain ⟨y, hy, rfl⟩ := List.mem_map.mp hl
  exact (h y hy).2 c hc
abbrev abcS : Str := "abcdefghijklmnopqrstuvwxyz"
theorem let_at : ∀ k : Nat, k < 26 → ∃ c, atI abcS.cps.toList ((k : Nat) : Int) = some c ∧ letOk ⟨#[c]⟩ := by
  have h : ∀ k : Nat, k < 26 → ((atI abcS.cps.toList ((k : Nat) : Int)).map fun c => decide (letOk ⟨#[c]⟩)) = some true := by decide +kernel
  intro k hk
  have := h k hk
  cases e : atI abcS.cps.toList ((k : Nat) : Int) with
  | none => rw [e] at this; cases this
  | some c =>
    rw [e] at this
    exact ⟨c, rfl, of_decide_eq_true (Option.some.inj this)⟩
section
variable {d a D : Addr} {H0 : Hp} {σ : L2.St} {te tk tb ta : TE} {K : PySem.W.Frag} {n : Nat}
theorem tp_letter (h0 : σ[0]? = some (some (.ref d))) (h1 : σ[1]? = some (some (.str abcS))) (hF : Feed H0 d) : TP d H0 σ (tOp rIxS (tVar 1) (tFn spDraw E0 (tCons (tVar 0) (tCons (tC (.int 26)) tNil)))) letOk := fun H Q x q => ⟨_, h1, _, h0, (d, 26), rfl, ⟨x.feed hF, (by decide : 1 ≤ 26), (by decide : 26 ≤ 100000)⟩, fun r H1 q1 => by
    obtain ⟨⟨k, hk, rfl⟩, x1⟩ := q1
    obtain ⟨c, hc, ho⟩ := let_at k hk
    exact ⟨abcS, _, c, rfl, rfl, by rw [sizeLine_eq, show Str.length abcS = 26 by decide +kernel] <;> decide, hc, q _ H1 ho x1⟩⟩
theorem tp_join0 (h : LP d H0 σ te (EL letOk n)) (hn : n ≤ 8) : TP d H0 σ (tM1 (rJoin K) (tC (.str "")) te) nmOk := by
  intro H Q x q
  refine ⟨⟨_, rfl⟩, h H _ x fun p l H1 ⟨ws, e, w, b⟩ hp x1 => ?_⟩
  subst e
  have hs := sum_bound (m := 1) ws fun y hy => Nat.le_of_eq (w y hy).1
  have hsp : (Str.length "") = 0 := by decide +kernel
  exact ⟨"", p, ws, rfl, rfl, .inl (SqL.of hp), by rw [hsp]; omega, q _ _ (join_let w (by omega)) x1⟩
end
section
variable {d a D : Addr} {H0 : Hp} {σ : L2.St} {te tk tb ta : TE} {K : PySem.W.Frag} {n k i : Nat} {ws : List Str} {u : TS} {E : Ends} {R : List V → Prop}
theorem asg_lh {D : Ends} (h : LH d H0 σ te R n) (q : ∀ (p : Addr) (vs : List V) (H' : Hp), Lsts H' R vs → vs.length = n → H' p = some (.lst vs) → Fd d H0 H' → u D (σ.set i (some (.ref p))) H') : tSeq (tAsg te (gName i)) u D σ H0 := h H0 _ (Fd.refl d H0) q
abbrev R4 : List V → Prop := fun l => ∃ ws : List Str, l = vS ws ∧ (∀ y ∈ ws, nmOk y) ∧ ws.length = 4
theorem lp_rot (h3 : σ[3]? = some (some (.ref a))) (h4 : σ[4]? = some (some (.int (k : Nat)))) (ha : H0 a = some (.lst (vS ws))) (hw : ∀ y ∈ ws, nmOk y) (hn : ws.length = 4) (hk : k < 4) :
    LP d H0 σ (tOp rCat (tSl (rSlL K) (tVar 3) (tPart (tVar 4)) tNoPart) (tSl (rSlL K) (tVar 3) tNoPart (tPart (tVar 4)))) R4 := by
  have hS : 200000 ≤ sizeLine := by rw [sizeLine_eq]; decide
  intro H Q x q
  have e0 := x.lst ha
  refine ⟨_, h3, _, h4, _, rfl, a, _, rfl, SqL.of e0, fun p1 hp1 => ⟨_, h3, _, h4, _, rfl, a, _, rfl, SqL.of (same_upd hp1 _ _ e0), fun p2 hp2 => ?_⟩⟩
  rw [vS_drop] at hp2
  rw [vS_drop, vS_take]
  refine ⟨p1, p2, vS (ws.drop k), vS (ws.take k), rfl, rfl, same_upd hp2 _ _ upd_same, upd_same, ?_, fun p3 hp3 => q p3 (vS (ws.drop k ++ ws.take k)) _ ⟨ws.drop k ++ ws.take k, rfl, fun y hy => ?_, ?_⟩ ?_ (((Fd.same (same_upd hp1)).trans (Fd.same (same_upd hp2))).trans (Fd.same (same_upd hp3)))⟩
  · rw [List.length_map, List.length_map, List.length_drop, List.length_take]
    omega
  · rcases List.mem_append.mp hy with hy | hy
    · exact hw y (List.mem_of_mem_drop hy)
    · exact hw y (List.mem_of_mem_take hy)
  · rw [List.length_append, List.length_drop, List.length_take]
    omega
  · rw [upd_same, vS_app]
end
theorem let_get : ∀ j : Nat, j < 26 → ∃ c, abcS.cps[j]? = some c ∧ letOk ⟨#[c]⟩ := by
  have h : ∀ k : Nat, k < 26 → ((abcS.cps[k]?).map fun c => decide (letOk ⟨#[c]⟩)) = some true := by decide +kernel
  intro k hk
  have := h k hk
  cases e : abcS.cps[k]? with
  | none => rw [e] at this; cases this
  | some c =>
    rw [e] at this
    exact ⟨c, rfl, of_decide_eq_true (Option.some.inj this)⟩
theorem not_all {fs : List Str} (hn : fs.length ≤ 3) (h : ∀ j : Nat, j < 26 → ∃ c, abcS.cps[j]? = some c ∧ (⟨#[c]⟩ : Str) ∈ fs) : False := by
  have key : ∀ (j : Nat) (z : Str), j < 26 → (abcS.cps[j]?.map fun c => (⟨#[c]⟩ : Str)) = some z → z ∈ fs := fun j z hj e => by
    obtain ⟨c, hc, hm⟩ := h j hj
    rw [hc] at e
    rw [← Option.some.inj e]
    exact hm
  have := pig ["a", "b", "c", "d"] fs (by decide +kernel) fun x hx => by
    simp only [List.mem_cons, List.not_mem_nil, or_false] at hx
    rcases hx with rfl | rfl | rfl | rfl
    · exact key 0 _ (by decide) (by decide +kernel)
    · exact key 1 _ (by decide) (by decide +kernel)
    · exact key 2 _ (by decide) (by decide +kernel)
    · exact key 3 _ (by decide) (by decide +kernel)
  have h4 : (["a", "b", "c", "d"] : List Str).length = 4 := rfl
  omega
theorem tcons1 {te : TE} {σ : L2.St} {H : Hp} {Q : List V → Hp → Prop} (h : te σ H fun x H1 => Q [x] H1) : tCons te tNil σ H Q := h
section
variable {d l0 : Addr} {H0 : Hp} {σ : L2.St} {K : PySem.W.Frag} {fs : List Str} {tag : Str} {vs : List Nat}
theorem abc_size : abcS.cps.size = 26 := by decide +kernel
/-- the name itself, or the first letter that is not yet taken -/
theorem tp_fresh (h1 : σ[1]? = some (some (.str abcS))) (h2 : σ[2]? = some (some (.ref l0))) (h6 : σ[6]? = some (some (.str tag))) (htag : nmOk tag) (e : H0 l0 = some (.lst (vS fs))) (hn : fs.length ≤ 3) (hw : ∀ x, wipe ((wipe σ vs).set 7 (some x)) vs = wipe σ vs)
    (w1 : (wipe σ vs)[1]? = some (some (.str abcS))) (w2 : ∀ x, ((wipe σ vs).set 7 (some x))[2]? = some (some (.ref l0))) (w7 : ∀ x, ((wipe σ vs).set 7 (some x))[7]? = some (some x)) :
    TP d H0 σ (tIf (tTest (tOp (rIn K true) (tVar 6) (tVar 2))) (tVar 6) (tOp (rIxL K) (tLc (iStr (tVar 1)) (gName 7) (tTest (tOp (rIn K true) (tVar 7) (tVar 2))) (tVar 7) vs) (tC (.int 0)))) nmOk := by
  have hS : 200000 ≤ sizeLine := by rw [sizeLine_eq]; decide
  intro H Q x q
  have e1 := x.lst e
  refine ⟨_, h6, _, h2, l0, vS fs, rfl, .inl (SqL.of e1), rfl, flat_vS fs, _, rfl, ite2 (fun _ => ⟨_, h6, q tag H htag (Fd.refl d H)⟩) (fun _ => ?_)⟩
  refine ⟨_, h1, abcS, rfl, fun D hD => lcw walk_str (fram_fd d) hD (by rw [abc_size]; omega) (fun _ _ => trivial) (fun i acc _ => EL nmOk i acc ∧ (acc = [] → ∀ j : Nat, j < i → ∃ c, abcS.cps[j]? = some c ∧ (⟨#[c]⟩ : Str) ∈ fs)) (fun _ _ _ _ _ h => h)
    ⟨⟨[], rfl, fun _ h => (nomatch h), Nat.le_refl _⟩, fun _ j hj => absurd hj (Nat.not_lt_zero j)⟩ (fun i x0 acc H2 H3 hi r y hI hacc Zk Zs hk hz => ?_) (fun H2 acc r hacc hI => ?_)⟩
  · obtain ⟨rfl, c, hc, rfl⟩ := y
    have hi : i < 26 := by rw [← abc_size]; exact hi
    have hlo : letOk ⟨#[c]⟩ := by
      obtain ⟨c', hc', ho⟩ := let_get i hi
      rw [hc] at hc'
      rw [Option.some.inj hc']
      exact ho
    refine ⟨hw _, _, w7 _, _, w2 _, l0, vS fs, rfl, .inl (SqL.of (r.lst e1)), rfl, flat_vS fs, _, rfl, ?_⟩
    rw [if_pos rfl, inV_vS]
    by_cases hm : (⟨#[c]⟩ : Str) ∈ fs
    · refine ite_f (by rw [decide_eq_true hm]; rfl) (hz _ (Fd.refl d _) ⟨?_, fun e0 j hj => ?_⟩)
      · obtain ⟨ws, e, w, b⟩ := hI.1
        exact ⟨ws, e, w, by omega⟩
      · by_cases hj2 : j < i
        · exact hI.2 e0 j hj2
        · have : j = i := by omega
          subst this
          exact ⟨c, hc, hm⟩
    · refine ite_t (by rw [decide_eq_false hm]; rfl) ⟨_, w7 _, hk _ _ (Fd.refl d _) ⟨el_snoc hI.1 hlo.n, fun e0 => absurd e0 (by simp)⟩⟩
  · rw [abc_size] at hI
    obtain ⟨⟨ws, rfl, w, b⟩, hne⟩ := hI
    cases ws with
    | nil => exact (not_all hn (hne rfl)).elim
    | cons z zs => exact ⟨D, _, _, .str z, rfl, rfl, SqL.of hacc, atI_nat (j := 0) rfl, q z H2 (w z List.mem_cons_self) r⟩
end
section
variable {P : Program} {w : World} {K : PySem.W.Frag} {mg : Str → Option Value} {base : Heap}
theorem ok_law_names (T : Tx K mg) : OkF P w K mg base CX0 3 "_law_names" ["_law_feed_here"] spNames := by
  have sc : FnScope ["_law_feed_here", "_law_letters", "_law_found", "_law_some", "_law_k", "_law_lap", "_law_tag", "_law_sign"] ["_law_feed_here"] (defScope (topS 45)) := ⟨rfl, rfl, rfl, by decide +kernel, rfl, by decide +kernel, by decide +kernel⟩
  refine okF T 29 45 rfl sc (fun _ _ _ _ _ _ us hl => match us, hl with | [_], _ => rfl) (fun vs H Q E ⟨_, e, _⟩ => by rw [e] <;> rfl) fun cdv A outer s H vs Q E hr ⟨d, e, hF, hQ⟩ => ?_
  have e : vs = [V.ref d] := e
  subst e
  have hF : Feed H d := hF
  have hS : 200000 ≤ sizeLine := by rw [sizeLine_eq]; decide
  refine ⟨_, PSs.nox (pss_cons (ps_asg (pe_tup (pa_cons pe_str (pa_cons (pe_lst pa_nil) pa_nil))) (pg_tup rfl (pgs_cons (pg_name (i := 1) sc.nd rfl (.inr rfl) (hf := .inl rfl)) (pgs_cons (pg_name (i := 2) sc.nd rfl (.inr rfl) (hf := .inl rfl)) pgs_nil))))
 (pss_cons (ps_if (pt_cmpR op_gt (pe_fn (ok_law_draw T) (hr.mono (by decide)) pass0 (pa_cons (pv 0) (pa_cons pe_int pa_nil))) pe_int (nomark _)) (pss_cons (ps_set (i := 3) sc.nd rfl (Or.inl rfl) (pe_lst (pa_cons (pe_lst (pa_cons pe_str (pa_cons pe_str (pa_cons pe_str (pa_cons pe_str pa_nil))))) (pa_cons (pe_lst (pa_cons pe_str (pa_cons pe_str (pa_cons pe_str (pa_cons pe_str pa_nil))))) (pa_cons (pe_lst (pa_cons pe_str (pa_cons pe_str (pa_cons pe_str (pa_cons pe_str pa_nil))))) pa_nil)))))
 (pss_cons (ps_set (i := 3) sc.nd rfl (Or.inl rfl) (pe_fn (ok_law_any T) (hr.mono (by decide)) pass0 (pa_cons (pv 0) (pa_cons (pe_op op_cat (pv 3) (pe_lst (pa_cons (pe_lst (pa_cons pe_str (pa_cons pe_str (pa_cons pe_str (pa_cons pe_str pa_nil))))) (pa_cons (pe_lst (pa_cons pe_str (pa_cons pe_str (pa_cons pe_str (pa_cons pe_str pa_nil))))) pa_nil)))) pa_nil))))
 (pss_cons (ps_set (i := 4) sc.nd rfl (Or.inl rfl) (pe_fn (ok_law_draw T) (hr.mono (by decide)) pass0 (pa_cons (pv 0) (pa_cons pe_int pa_nil))))
 (pss_one (ps_ret (pe_op op_cat (pe_slice sl_list (pv 3) (po_some (pv 4)) po_none) (pe_slice sl_list (pv 3) po_none (po_some (pv 4))))))))) pss_nil)
 (pss_cons (ps_for PassesOwn.never rfl (pi_range1 rfl (T.bl (x := "range")) (pa_cons pe_int pa_nil)) (pg_name (i := 5) sc.nd rfl (.inl rfl) (hf := .inr rfl)) (pss_cons (ps_set (i := 6) sc.nd rfl (Or.inl rfl) (pe_join pe_str (pe_lc (own := [("_law_sign", 7)]) (g := gName 7) (by rfl) sc.nd (pi_range1 rfl (T.bl (x := "range")) (pa_cons (pe_op op_add pe_int (pe_fn (ok_law_draw T) (hr.mono (by decide)) pass0 (pa_cons (pv 0) (pa_cons pe_int pa_nil)))) pa_nil)) (blkOk_by (own := [("_law_sign", 7)]) (N := ["_law_feed_here", "_law_letters", "_law_found", "_law_some", "_law_k", "_law_lap", "_law_tag", "_law_sign"]) (sc := (defScope (topS 45))) (by decide +kernel)) (fun _ _ _ _ _ => (pg_name (i := 7) sc.nd rfl (.inl rfl) (hf := .inr rfl))) (fun _ _ _ _ _ => pts_nil) (fun _ _ _ _ _ => (pe_ix ix_str (pv 1) (pe_fn (ok_law_draw T) (hr.mono (by decide)) pass0 (pa_cons (pv 0) (pa_cons pe_int pa_nil))) (fun _ _ => rfl))))))
 (pss_one (ps_expr (pe_bm PySem.F.plainAttrs_list PySem.F.slot_list_append PySem.F.type_list_append mt_append (pv 2) (pa_cons (pe_ifExp (pt_cmpR op_notIn_seq (pv 6) (pv 2) (by rfl)) (pv 6) (pe_ix ix_list (pe_lc (own := [("_law_sign", 7)]) (g := gName 7) (by rfl) sc.nd (pi_str (pv 1)) (blkOk_by (own := [("_law_sign", 7)]) (N := ["_law_feed_here", "_law_letters", "_law_found", "_law_some", "_law_k", "_law_lap", "_law_tag", "_law_sign"]) (sc := (defScope (topS 45))) (by decide +kernel)) (fun _ _ _ _ _ => (pg_name (i := 7) sc.nd rfl (.inl rfl) (hf := .inr rfl))) (fun _ _ _ _ _ => pts_one (pt_cmpR (op_notIn_seqK (K := K) rfl) (pv 7) (pv 2) (by rfl))) (fun _ _ _ _ _ => (pv 7))) pe_int (fun _ _ => rfl))) pa_nil))))))
 (pss_one (ps_ret (pv 2)))))), ?_⟩
  refine ⟨Nat.zero_le _, fun l0 h0 => ⟨by show 2 ≤ _; omega, fun p0 hp0 => ⟨p0, _, rfl, .inl (.inl upd_same), rfl, _, _, rfl, _, _, rfl, rfl, ?_⟩⟩⟩
  have hl0 : H l0 = none := h0
  have e0 := same_upd hp0 (o := .tup [V.str abcS, V.ref l0]) _ _ (upd_same (H := H) (a := l0) (o := .lst []))
  have y1 : Fd d H _ := Fd.same ((same_upd h0 (o := .lst [])).trans (same_upd hp0 (o := .tup [V.str abcS, V.ref l0])))
  refine ⟨_, rfl, (d, 3), rfl, ⟨y1.feed hF, (by decide : 1 ≤ 3), (by decide : 3 ≤ 100000)⟩, fun r H2 q2 => ?_⟩
  obtain ⟨⟨way, hway, rfl⟩, x2⟩ := q2
  have x2 : Fd d _ H2 := x2
  have e2 := x2.lst e0
  have y2 := y1.trans x2
  have hF2 := y2.feed hF
  refine ⟨_, _, rfl, rfl, _, rfl, ite2 (fun _ => ?_) (fun _ => ?_)⟩
  · have c4 : ∀ (a b c e : Str) (ss : L2.St) (H3 : Hp), nmOk a → nmOk b → nmOk c → nmOk e → LP d H3 ss (tLst (tCons (tC (.str a)) (tCons (tC (.str b)) (tCons (tC (.str c)) (tCons (tC (.str e)) tNil))))) R4 := fun a b c e ss H3 h1 h2 h3 h4 => lp_lst (ap_cons (tp_c h1) (ap_cons (tp_c h2) (ap_cons (tp_c h3) (ap_cons (tp_c h4) ap_nil)))) (by decide)
    refine asg_lh (lh_lst (br_cons (c4 _ _ _ _ _ _ (by decide +kernel) (by decide +kernel) (by decide +kernel) (by decide +kernel)) (br_cons (c4 _ _ _ _ _ _ (by decide +kernel) (by decide +kernel) (by decide +kernel) (by decide +kernel)) (br_cons (c4 _ _ _ _ _ _ (by decide +kernel) (by decide +kernel) (by decide +kernel) (by decide +kernel)) br_nil))) (by decide)) fun p vs H3 hv hn hp x3 => ?_
    refine asg_lp (lp_anyH (lh_cat (lh_var rfl hp hv) (lh_lst (br_cons (c4 _ _ _ _ _ _ (by decide +kernel) (by decide +kernel) (by decide +kernel) (by decide +kernel)) (br_cons (c4 _ _ _ _ _ _ (by decide +kernel) (by decide +kernel) (by decide +kernel) (by decide +kernel)) br_nil)) (by decide)) (by omega)) (by omega) (by omega) rfl (x3.feed hF2)) fun p2 l H4 r4 h4 x4 => ?_
    obtain ⟨ws, rfl, hw, hn4⟩ := r4
    have x4' := x3.trans x4
    refine asg_draw (m := 4) rfl (x4'.feed hF2) (by decide) (by decide) fun k H5 hk x5 => ?_
    refine ret_lp (d := d) (lp_rot rfl rfl (x5.lst h4) hw hn4 hk) fun p3 l3 H6 r6 h6 x6 => ?_
    obtain ⟨ws3, rfl, hw3, hn3⟩ := r6
    exact hQ _ _ ⟨⟨p3, ws3, rfl, h6, hn3, hw3⟩, ((y2.trans x4').trans x5).trans x6⟩
  -- four laps
  refine ⟨(4 : Int), rfl, by decide, by decide, ?_⟩
  refine for_it (walk_range (lo := 0) (n := 4)) (fun i σ' H' => (∃ u1 u2 u3, σ' = [some (V.ref d), some (V.str abcS), some (V.ref l0), none, none, u1, u2, u3]) ∧ ∃ fs : List Str, H' l0 = some (.lst (vS fs)) ∧ fs.length = i ∧ (∀ y ∈ fs, nmOk y) ∧ Fd d H H') ⟨⟨none, none, none, rfl⟩, [], e2, rfl, fun _ h => (nomatch h), y2⟩ (fun _ _ _ _ _ => trivial) (fun i x σ' H' H3 hi hP hy => ?_) (fun σ' H' hP => ?_)
  · obtain ⟨⟨u1, u2, u3, rfl⟩, fs, hfs, hn, hnm, y3⟩ := hP
    obtain ⟨rfl, rfl⟩ := hy
    have hF3 := y3.feed hF
    dsimp only [gName]
    refine asg_tp (d := d) (i := 6) (tp_join0 (n := 8) (lp_lcR (i := 7) (fun H4 Q4 x4 q4 => ?_) (by decide) (fun _ => rfl) (fun _ => tp_letter rfl rfl hF3)) (by decide)) fun tag H4 htag x4 => ?_
    · refine ⟨_, rfl, (d, 8), rfl, ⟨x4.feed hF3, (by decide : 1 ≤ 8), (by decide : 8 ≤ 100000)⟩, fun r H5 q5 => ?_⟩
      obtain ⟨⟨k, hk, rfl⟩, x5⟩ := q5
      have hk : k < 8 := hk
      refine ⟨_, _, rfl, rfl, ?_⟩
      have h := q4 (k + 1) H5 (by omega) x5
      rw [show ((k + 1 : Nat) : Int) = 1 + ((k : Nat) : Int) by omega] at h
      exact h
    have e4 := x4.lst hfs
    refine ⟨_, rfl, .inl ⟨rfl, _, SqL.of e4⟩, tcons1 (tp_fresh (vs := [7]) rfl rfl rfl htag e4 (by omega) (fun _ => rfl) rfl (fun _ => rfl) (fun _ => rfl) H4 _ (Fd.refl d H4) fun z H5 hz x5 => ?_)⟩
    have e5 := x5.lst e4
    have y5 := (y3.trans x4).trans x5
    refine ⟨l0, vS fs, _, rfl, rfl, e5, by rw [List.length_map]; omega, ⟨_, _, _, rfl⟩, fs ++ [z], ?_, ?_, fun y hy => ?_, y5.new hl0⟩
    · rw [upd_same]
      exact congrArg (fun l => some (HO.lst l)) (vS_app fs [z])
    · rw [List.length_append, hn] <;> rfl
    · rcases List.mem_append.mp hy with hy | hy
      · exact hnm y hy
      · rw [List.mem_singleton.mp hy]; exact hz
  · obtain ⟨⟨u1, u2, u3, rfl⟩, fs, hfs, hn, hnm, y3⟩ := hP
    exact ⟨_, rfl, hQ _ _ ⟨⟨l0, fs, rfl, hfs, hn, hnm⟩, y3⟩⟩
end
end Fl

-- KE2
/-! list(a text) -/
namespace Fl
open PySem PySem.Spec PyProof.Rows L2
section
variable {X : Cx}
theorem call_listStr (hc : X.calm = true) : CallR X (.type "list") (fun xs H Q => ∃ z : Str, xs = [.str z] ∧ z.length ≤ sizeLine ∧ ∀ p, H p = none → Q (.ref p) (upd H p (.lst ((signs z).map V.str)))) := by
  intro pins s σ H xs us Q I r h
  obtain ⟨z, rfl, hz, q⟩ := h
  obtain ⟨u, rfl, t, rfl⟩ := vals1 r
  have hl : (signs z).length = z.cps.size := by simp [signs]
  have hz2 : z.cps.size ≤ sizeLine := hz
  refine call_list_str (I.ok.hd hc) z t (hn := hz2) fun h' tk acc c' hk e hi => ?_
  refine ⟨.ref s.heap.objs.size, upd H s.heap.objs.size (.lst ((signs z).map V.str)), I.laid hk (Nat.le_refl _) ⟨by rw [List.length_map, hl]; exact hz2, acc.toList, c', ?_, by rw [Array.toArray_toList]; exact e⟩, rfl, q _ (I.hok.fresh (Nat.le_refl _))⟩
  refine vals_of_idx _ _ (by rw [List.length_map, hl, Array.length_toList]; exact hi.1) fun j u hj => ?_
  obtain ⟨c, t', hcc, rfl⟩ := hi.2 j u (by rw [← Array.getElem?_toList]; exact hj)
  exact ⟨.str ⟨#[c]⟩, by simp [signs, hcc], ⟨_, rfl⟩⟩
end
end Fl

-- KD7
/-! the scene as the law draws it -/
namespace Fl
open PySem PySem.Spec PyProof.Rows L2 TL RZ
abbrev abcd4 : List Str := ["a", "b", "c", "d"]
def ScI (H : Hp) (v : V) : Prop := ∃ (p t : Addr) (s : Str) (f : Int) (h : Bool) (ts : List Str), v = .ref p ∧ H p = some (.lst [.str s, .int f, .bl h, .ref t]) ∧ H t = some (.lst (vS ts)) ∧ s ∈ abcd4 ∧ (∀ x ∈ ts, x ∈ abcd4) ∧ 1 ≤ f ∧ f ≤ 3 ∧ ts.length ≤ 5
abbrev spScene : Sp := Pr (fun d : Addr => [.ref d]) (fun d H => Feed H d) (fun d H r H' => (∃ p vs, r = .ref p ∧ H' p = some (.lst vs) ∧ 1 ≤ vs.length ∧ vs.length ≤ 4 ∧ ∀ v ∈ vs, ScI H' v) ∧ Fd d H H')
def partOk (y : Str) : Bool := match Txt.split y ":" with
  | [hd, tb] => (match hd.cps.toList with
    | c0 :: c1 :: _ => decide ((⟨#[c0]⟩ : Str) ∈ abcd4) && (match intText? ⟨#[c1]⟩ with
      | some n => decide (1 ≤ n ∧ n ≤ 3)
      | none => false) && decide (hd.length ≤ 10) && (signs tb).all (fun x => decide (x ∈ abcd4)) && decide ((signs tb).length ≤ 3) && decide (tb.length ≤ 3)
    | _ => false)
  | _ => false
theorem partOk_use {y : Str} (h : partOk y = true) : ∃ hd tb c0 c1 n, Txt.split y ":" = [hd, tb] ∧ atI hd.cps.toList 0 = some c0 ∧ atI hd.cps.toList 1 = some c1 ∧ (⟨#[c0]⟩ : Str) ∈ abcd4 ∧ intText? ⟨#[c1]⟩ = some n ∧ 1 ≤ n ∧ n ≤ 3 ∧ hd.length ≤ 10 ∧ (∀ x ∈ signs tb, x ∈ abcd4) ∧ (signs tb).length ≤ 3 ∧ tb.length ≤ 3 := by
  unfold partOk at h
  split at h
  · rename_i hd tb e
    split at h
    · rename_i c0 c1 r e2
      simp only [Bool.and_eq_true, decide_eq_true_eq, List.all_eq_true] at h
      obtain ⟨⟨⟨⟨⟨h1, h2⟩, h3⟩, h4⟩, h5⟩, h6⟩ := h
      split at h2
      · rename_i n e3
        have h2 := of_decide_eq_true h2
        exact ⟨hd, tb, c0, c1, n, e, by rw [e2]; exact atI_nat (j := 0) rfl, by rw [e2]; exact atI_nat (j := 1) rfl, h1, e3, h2.1, h2.2, h3, h4, h5, h6⟩
      · cases h2
    · cases h
  · cases h
abbrev sc1 : List Str := ["a1:bd b1:c c1: d1:b", "a1:bd b1:c c1: d1:bd", "a1:a", "a1:bd b1:c c2:b d2:b", "a1:bd b1:c c1*: d1:b"]
abbrev sc2 : List Str := ["a1:b b1*:c c1:", "a1:b b1:a", "a2:a", "a1:bd b2:c c1: d1:ab", "a1:c c1:c", "a1:bc b1:c c1:d d1:"]
abbrev sc3 : List Str := ["a3:b b1:", "a1:abc b1:abc c1:abc", "a1:bc b2:c c1*:a", "a1:", "a1:b b2:cd c1*:b d1:cd"]
def sceneOk (z : Str) : Prop := z.length ≤ 100 ∧ 1 ≤ (wds z).length ∧ (wds z).length ≤ 4 ∧ ∀ y ∈ wds z, partOk y = true ∧ y.length ≤ 20
instance (z : Str) : Decidable (sceneOk z) := inferInstanceAs (Decidable (_ ∧ _))
theorem scene_ok : ∀ z ∈ (sc1 ++ sc2) ++ sc3, sceneOk z := by decide +kernel
/-- .. and it is not the list at l0 -/
def ScN (l0 : Addr) (m : Nat) (H : Hp) (v : V) : Prop := ∃ (p t : Addr) (s : Str) (f : Int) (h : Bool) (ts : List Str), v = .ref p ∧ H p = some (.lst [.str s, .int f, .bl h, .ref t]) ∧ H t = some (.lst (vS ts)) ∧ s ∈ abcd4 ∧ (∀ x ∈ ts, x ∈ abcd4) ∧ 1 ≤ f ∧ f ≤ 3 ∧ ts.length ≤ m ∧ p ≠ l0 ∧ t ≠ l0
theorem ScN.i {l0 : Addr} {m : Nat} {H : Hp} {v : V} (h : ScN l0 m H v) (hm : m ≤ 5) : ScI H v := by
  obtain ⟨p, t, s, f, b, ts, e, h1, h2, r1, r2, r3, r4, r5, _⟩ := h
  exact ⟨p, t, s, f, b, ts, e, h1, h2, r1, r2, r3, r4, Nat.le_trans r5 hm⟩
theorem scn_fd {l0 d : Addr} {m : Nat} {H H' : Hp} {v : V} (x : Fd d H H') (h : ScN l0 m H v) : ScN l0 m H' v := by
  obtain ⟨p, t, s, f, b, ts, e, h1, h2, r⟩ := h
  exact ⟨p, t, s, f, b, ts, e, x.lst h1, x.lst h2, r⟩
theorem scn_upd {l0 : Addr} {m : Nat} {H : Hp} {o : HO} {v : V} (h : ScN l0 m H v) : ScN l0 m (upd H l0 o) v := by
  obtain ⟨p, t, s, f, b, ts, e, h1, h2, r1, r2, r3, r4, r5, n1, n2⟩ := h
  exact ⟨p, t, s, f, b, ts, e, by rw [upd_ne n1]; exact h1, by rw [upd_ne n2]; exact h2, r1, r2, r3, r4, r5, n1, n2⟩
theorem ScN.mono {l0 : Addr} {m n : Nat} {H : Hp} {v : V} (h : ScN l0 m H v) (hm : m ≤ n) : ScN l0 n H v := by
  obtain ⟨p, t, s, f, b, ts, e, h1, h2, r1, r2, r3, r4, r5, r6⟩ := h
  exact ⟨p, t, s, f, b, ts, e, h1, h2, r1, r2, r3, r4, Nat.le_trans r5 hm, r6⟩
/-- the list at l0 holds N good items -/
def FA (d l0 : Addr) (m : Nat) (H3 H : Hp) (N : Nat) : Prop := ∃ vs : List V, H l0 = some (.lst vs) ∧ vs.length = N ∧ (∀ v ∈ vs, ScN l0 m H v) ∧ Fd d H3 H
theorem fa_set {d l0 : Addr} {m N k : Nat} {H3 H H' : Hp} {vs : List V} {v : V} (h0 : H3 l0 = none) (hn : vs.length = N) (hsc : ∀ v ∈ vs, ScN l0 m H v) (z : Fd d H3 H) (x : Fd d H H') (hr : ScN l0 m H' v) : FA d l0 m H3 (upd H' l0 (.lst (vs.set k v))) N := by
  refine ⟨vs.set k v, upd_same, by rw [List.length_set]; exact hn, fun u hu => ?_, (z.trans x).new h0⟩
  rcases List.mem_or_eq_of_mem_set hu with hu | rfl
  · exact scn_upd (scn_fd x (hsc u hu))
  · exact scn_upd hr
theorem FA.mono {d l0 : Addr} {m n N : Nat} {H3 H : Hp} (h : FA d l0 m H3 H N) (hm : m ≤ n) : FA d l0 n H3 H N := by
  obtain ⟨vs, h1, h2, h3, h4⟩ := h
  exact ⟨vs, h1, h2, fun v hv => (h3 v hv).mono hm, h4⟩
theorem fresh_ne {l0 r : Addr} {H : Hp} {o : HO} (h : H l0 = some o) (hr : H r = none) : r ≠ l0 := fun e => by
  rw [← e, hr] at h
  cases h
theorem ixN_nat {n k : Nat} (h : k < n) : ixN n (k : Nat) = some k := by
  unfold ixN
  rw [if_pos (by omega), if_pos (by omega)]
  rfl
section
variable {d a : Addr} {H0 : Hp} {σ : L2.St} {ta tb te : TE} {W : Str → Prop} {m n i : Nat} {ws : List Str} {K : PySem.W.Frag}
abbrev EX (W : Str → Prop) (n : Nat) : List V → Prop := fun l => ∃ ws : List Str, l = vS ws ∧ (∀ y ∈ ws, W y) ∧ ws.length = n
theorem lp_catX (ha : LP d H0 σ ta (EX W m)) (hb : LP d H0 σ tb (EX W n)) (h : m + n ≤ 200000) : LP d H0 σ (tOp rCat ta tb) (EX W (m + n)) := by
  have hS : 200000 ≤ sizeLine := by rw [sizeLine_eq]; decide
  intro H Q x q
  refine ha H _ x fun p l H1 r1 h1 x1 => hb H1 _ (x.trans x1) fun p2 l2 H2 r2 h2 x2 => ?_
  obtain ⟨u1, rfl, w1, n1⟩ := r1
  obtain ⟨u2, rfl, w2, n2⟩ := r2
  refine ⟨p, p2, _, _, rfl, rfl, x2.lst h1, h2, by rw [List.length_map, List.length_map]; omega, fun p3 h3 => q p3 _ _ ⟨u1 ++ u2, rfl, fun y hy => (List.mem_append.mp hy).elim (w1 y) (w2 y), by rw [List.length_append]; omega⟩ ?_ ((x1.trans x2).trans (Fd.same (same_upd h3)))⟩
  rw [upd_same, vS_app]
theorem lp_varX (hi : σ[i]? = some (some (.ref a))) (ha : H0 a = some (.lst (vS ws))) (hw : ∀ y ∈ ws, W y) (hn : ws.length = n) : LP d H0 σ (tVar i) (EX W n) := fun H Q x q => ⟨_, hi, q a _ H ⟨ws, rfl, hw, hn⟩ (x.lst ha) (Fd.refl d H)⟩
theorem sc_c {z : Str} (h : z ∈ (sc1 ++ sc2) ++ sc3) : TP d H0 σ (tC (.str z)) sceneOk := tp_c (scene_ok z h)
end
section
variable {d a : Addr} {H0 : Hp} {σ : L2.St} {ta tb te : TE} {n i : Nat} {K : PySem.W.Frag} {R : List V → Prop} {g : TG} {bd u : TS} {D : Ends}
abbrev Parts : List V → Prop := fun l => ∃ ws : List Str, l = vS ws ∧ 1 ≤ ws.length ∧ ws.length ≤ 4 ∧ ∀ y ∈ ws, partOk y = true ∧ y.length ≤ 20
theorem lp_splitS (h : TP d H0 σ te sceneOk) : LP d H0 σ (tM1 rSplit te (tC (.str spcS))) Parts := fun H Q x q => h H _ x fun z H1 hz x1 => ⟨⟨_, rfl⟩, z, spcS, rfl, rfl, rfl, by
    have hS : 200000 ≤ sizeLine := by rw [sizeLine_eq]; decide
    have := hz.1
    omega, fun p hp => q p _ _ ⟨wds z, rfl, hz.2.1, hz.2.2.1, hz.2.2.2⟩ upd_same (x1.trans (Fd.same (same_upd hp)))⟩
theorem for_lp (h : LP d H0 σ te R) (hh : ∀ (a : Addr) (l : List V) (H1 : Hp), R l → H1 a = some (.lst l) → Fd d H0 H1 → ∃ Pv : Nat → L2.St → Hp → Prop, Pv 0 σ H1 ∧ (∀ i σ' H', Pv i σ' H' → H' a = some (.lst l)) ∧
    (∀ i x σ' H', i < l.length → Pv i σ' H' → l[i]? = some x → g x σ' H' fun σ2 H2 => bd { D with nx := Pv (i + 1), ct := Pv (i + 1), bk := u D } σ2 H2) ∧ ∀ σ' H', Pv l.length σ' H' → u D σ' H') :
    tSeq (tFor (iList K te) g bd) u D σ H0 := h H0 _ (Fd.refl d H0) fun a l H1 r ha x => by
  obtain ⟨Pv, p0, pG, pS, pD⟩ := hh a l H1 r ha x
  refine ⟨a, rfl, ⟨l, SqL.of ha⟩, for_it (D := { D with nx := u D }) (walk_list (K := K) (a := a) (xs := l)) Pv p0 (fun i σ' H' _ hP => SqL.of (pG i σ' H' hP)) (fun i x σ' H' H6 hi hP hy => ?_) (fun σ' H' hP => pD σ' H' hP)⟩
  obtain ⟨rfl, hx⟩ := hy
  exact pS i x σ' _ hi hP hx
end
section
variable {P : Program} {w : World} {K : PySem.W.Frag} {mg : Str → Option Value} {base : Heap}
theorem ok_law_scene (T : Tx K mg) : OkF P w K mg base CX0 3 "_law_scene" ["_law_feed_here"] spScene := by
  have sc : FnScope ["_law_feed_here", "_law_some", "_law_found", "_law_part", "_law_head", "_law_table", "_law_way", "_law_k", "_law_other"] ["_law_feed_here"] (defScope (topS 46)) := ⟨rfl, rfl, rfl, by decide +kernel, rfl, by decide +kernel, by decide +kernel⟩
  refine okF T 30 46 rfl sc (fun _ _ _ _ _ _ us hl => match us, hl with | [_], _ => rfl) (fun vs H Q E ⟨_, e, _⟩ => by rw [e] <;> rfl) fun cdv A outer s H vs Q E hr ⟨d, e, hF, hQ⟩ => ?_
  have e : vs = [V.ref d] := e
  subst e
  have hF : Feed H d := hF
  have hS : 200000 ≤ sizeLine := by rw [sizeLine_eq]; decide
  refine ⟨_, PSs.nox (pss_cons (ps_set (i := 1) sc.nd rfl (Or.inl rfl) (pe_lst (pa_cons pe_str (pa_cons pe_str (pa_cons pe_str (pa_cons pe_str (pa_cons pe_str pa_nil)))))))
 (pss_cons (ps_set (i := 1) sc.nd rfl (Or.inl rfl) (pe_op op_cat (pv 1) (pe_lst (pa_cons pe_str (pa_cons pe_str (pa_cons pe_str (pa_cons pe_str (pa_cons pe_str (pa_cons pe_str pa_nil)))))))))
 (pss_cons (ps_set (i := 1) sc.nd rfl (Or.inl rfl) (pe_op op_cat (pv 1) (pe_lst (pa_cons pe_str (pa_cons pe_str (pa_cons pe_str (pa_cons pe_str (pa_cons pe_str pa_nil))))))))
 (pss_cons (ps_set (i := 2) sc.nd rfl (Or.inl rfl) (pe_lst pa_nil))
 (pss_cons (ps_for PassesOwn.never rfl (pi_list (pe_split (pe_fn (ok_law_any T) (hr.mono (by decide)) pass0 (pa_cons (pv 0) (pa_cons (pv 1) pa_nil))) pe_str)) (pg_name (i := 3) sc.nd rfl (.inl rfl) (hf := .inr rfl)) (pss_cons (ps_asg (pe_split (pv 3) pe_str) (pg_unl rfl (pgs_cons (pg_name (i := 4) sc.nd rfl (.inl rfl) (hf := .inr rfl)) (pgs_cons (pg_name (i := 5) sc.nd rfl (.inl rfl) (hf := .inr rfl)) pgs_nil))))
 (pss_one (ps_expr (pe_bm PySem.F.plainAttrs_list PySem.F.slot_list_append PySem.F.type_list_append mt_append (pv 2) (pa_cons (pe_lst (pa_cons (pe_ix ix_str (pv 4) pe_int (fun _ _ => rfl)) (pa_cons (pe_callTy call_int_str rfl (T.bl (x := "int")) (by decide +kernel) (pa_cons (pe_ix ix_str (pv 4) pe_int (fun _ _ => rfl)) pa_nil)) (pa_cons (pe_cmpR op_gt (pe_callB call_len rfl (T.bl (x := "len")) (by decide +kernel) (pa_cons (pv 4) pa_nil)) pe_int (nomark _)) (pa_cons (pe_callTy (call_listStr rfl) rfl (T.bl (x := "list")) (by decide +kernel) (pa_cons (pv 5) pa_nil)) pa_nil))))) pa_nil))))))
 (pss_cons (ps_par3 (i := 6) (j := 7) (l := 8) (by rfl) sc.nd rfl rfl rfl (by decide) (by decide) (by decide) rfl rfl rfl (pa_cons (pe_fn (ok_law_draw T) (hr.mono (by decide)) pass0 (pa_cons (pv 0) (pa_cons pe_int pa_nil))) (pa_cons (pe_fn (ok_law_draw T) (hr.mono (by decide)) pass0 (pa_cons (pv 0) (pa_cons (pe_callB call_len rfl (T.bl (x := "len")) (by decide +kernel) (pa_cons (pv 2) pa_nil)) pa_nil))) (pa_cons (pe_ix ix_list (pe_fn (ok_law_any T) (hr.mono (by decide)) pass0 (pa_cons (pv 0) (pa_cons (pv 2) pa_nil))) pe_int (fun _ _ => rfl)) pa_nil))) (by rfl))
 (pss_cons (ps_if (PW.pt (pw_and (pt_cmpR op_eq (pv 6) pe_int (nomark _)) (pw_and1 (pt_cmpR op_notIn_seq (pv 8) (pe_ix ix_list (pe_ix ix_list (pv 2) (pv 7) (fun _ _ => rfl)) pe_int (fun _ _ => rfl)) (by rfl))))) (pss_one (ps_asg (pe_op op_cat (pe_slice sl_list (pe_ix ix_list (pv 2) (pv 7) (fun _ _ => rfl)) po_none (po_some pe_int)) (pe_lst (pa_cons (pe_op op_cat (pe_ix ix_list (pe_ix ix_list (pv 2) (pv 7) (fun _ _ => rfl)) pe_int (fun _ _ => rfl)) (pe_lst (pa_cons (pv 8) pa_nil))) pa_nil))) (pg_sub (pv 2) (pv 7) set_list))) pss_nil)
 (pss_cons (ps_if (pt_cmpR op_eq (pv 6) pe_int (nomark _)) (pss_one (ps_asg (pe_op op_cat (pe_lst (pa_cons (pe_ix ix_list (pe_ix ix_list (pv 2) (pv 7) (fun _ _ => rfl)) pe_int (fun _ _ => rfl)) (pa_cons (pe_op op_add pe_int (pe_fn (ok_law_draw T) (hr.mono (by decide)) pass0 (pa_cons (pv 0) (pa_cons pe_int pa_nil)))) pa_nil))) (pe_slice sl_list (pe_ix ix_list (pv 2) (pv 7) (fun _ _ => rfl)) (po_some pe_int) po_none)) (pg_sub (pv 2) (pv 7) set_list))) pss_nil)
 (pss_cons (ps_if (PW.pt (pw_and (pt_cmpR op_eq (pv 6) pe_int (nomark _)) (pw_and1 (pt_cmpR op_gt (pv 7) pe_int (nomark _))))) (pss_one (ps_asg (pe_op op_cat (pe_slice sl_list (pe_ix ix_list (pv 2) (pv 7) (fun _ _ => rfl)) po_none (po_some pe_int)) (pe_lst (pa_cons (pe_not (pe_ix ix_list (pe_ix ix_list (pv 2) (pv 7) (fun _ _ => rfl)) pe_int (fun _ _ => rfl))) (pa_cons (pe_ix ix_list (pe_ix ix_list (pv 2) (pv 7) (fun _ _ => rfl)) pe_int (fun _ _ => rfl)) pa_nil)))) (pg_sub (pv 2) (pv 7) set_list))) pss_nil)
 (pss_one (ps_ret (pv 2)))))))))))), ?_⟩
  refine asg_lp (d := d) (lp_lst (n := 5) (W := sceneOk) (ap_cons (sc_c (by decide +kernel)) (ap_cons (sc_c (by decide +kernel)) (ap_cons (sc_c (by decide +kernel)) (ap_cons (sc_c (by decide +kernel)) (ap_cons (sc_c (by decide +kernel)) ap_nil))))) (by decide)) fun p1 l1 H1 r1 h1 x1 => ?_
  obtain ⟨w1, rfl, k1, n1⟩ := r1
  refine asg_lp (d := d) (lp_catX (n := 6) (W := sceneOk) (lp_varX rfl h1 k1 n1) (lp_lst (ap_cons (sc_c (by decide +kernel)) (ap_cons (sc_c (by decide +kernel)) (ap_cons (sc_c (by decide +kernel)) (ap_cons (sc_c (by decide +kernel)) (ap_cons (sc_c (by decide +kernel)) (ap_cons (sc_c (by decide +kernel)) ap_nil)))))) (by decide)) (by decide)) fun p2 l2 H2 r2 h2 x2 => ?_
  obtain ⟨w2, rfl, k2, n2⟩ := r2
  refine asg_lp (d := d) (lp_catX (n := 5) (W := sceneOk) (lp_varX rfl h2 k2 n2) (lp_lst (ap_cons (sc_c (by decide +kernel)) (ap_cons (sc_c (by decide +kernel)) (ap_cons (sc_c (by decide +kernel)) (ap_cons (sc_c (by decide +kernel)) (ap_cons (sc_c (by decide +kernel)) ap_nil))))) (by decide)) (by decide)) fun p3 l3 H3 r3 h3 x3 => ?_
  obtain ⟨w3, rfl, k3, n3⟩ := r3
  have y3 := (x1.trans x2).trans x3
  clear h1 h2 k1 k2 n1 n2
  -- the new list
  refine ⟨Nat.zero_le _, fun l0 hl0 => ?_⟩
  have e4 := upd_same (H := H3) (a := l0) (o := .lst [])
  have b3 := same_upd hl0 (o := .lst []) _ _ h3
  have z4 : Fd d H3 (upd H3 l0 (.lst [])) := Fd.same (same_upd hl0)
  have hF4 := (y3.trans z4).feed hF
  dsimp only [gName]
  refine for_lp (d := d) (K := K) (lp_splitS (tp_any (al_var (i := 1) rfl b3 k3 (by omega) (by omega)) rfl hF4)) fun a l H5 r5 h5 x5 => ?_
  obtain ⟨ws, rfl, hw1, hw4, hws⟩ := r5
  have hal : a ≠ l0 := fun e => by
    rw [e, x5.lst e4] at h5
    have h6 := HO.lst.inj (Option.some.inj h5)
    cases ws with
    | nil => exact absurd hw1 (by decide)
    | cons _ _ => cases h6
  refine ⟨fun i σ' H' => (∃ u3 u4 u5, σ' = [some (V.ref d), some (V.ref p3), some (V.ref l0), u3, u4, u5, none, none, none]) ∧ ∃ vs : List V, H' l0 = some (.lst vs) ∧ vs.length = i ∧ (∀ v ∈ vs, ScN l0 4 H' v) ∧ Fd d H3 H' ∧ H' a = some (.lst (vS ws)),
    ⟨⟨none, none, none, rfl⟩, [], x5.lst e4, rfl, fun _ h => (nomatch h), z4.trans x5, h5⟩, fun i σ' H' hP => (by obtain ⟨_, _, _, _, _, _, h⟩ := hP; exact h), fun i x σ' H' hi hP hy => ?_, fun σ' H' hP => ?_⟩
  · obtain ⟨⟨u3, u4, u5, rfl⟩, vs, hvs, hn, hsc, z6, h6⟩ := hP
    have hi : i < ws.length := by rw [List.length_map] at hi; exact hi
    obtain ⟨y, hy2, rfl⟩ : ∃ y ∈ ws, x = V.str y := by
      obtain ⟨y, hy2, e⟩ := List.mem_map.mp (List.mem_of_getElem? hy)
      exact ⟨y, hy2, e.symm⟩
    obtain ⟨hp, hyl⟩ := hws y hy2
    obtain ⟨hd, tb, c0, c1, nn, eS, ha0, ha1, hm0, hint, hn1, hn3, hhl, htb, htl, htl2⟩ := partOk_use hp
    refine ⟨_, rfl, ⟨_, rfl⟩, y, ":", rfl, rfl, rfl, by omega, fun q hq => ⟨q, [V.str hd, V.str tb], rfl, SqL.of (by rw [eS]; exact upd_same), rfl, _, _, rfl, _, _, rfl, rfl, ?_⟩⟩
    have s7 := same_upd hq (o := .lst (vS (Txt.split y ":")))
    have g0 := s7 _ _ hvs
    refine ⟨_, rfl, .inl ⟨rfl, _, SqL.of g0⟩, _, rfl, hd, 0, c0, rfl, rfl, by omega, ha0, _, rfl, hd, 1, c1, rfl, rfl, by omega, ha1, ⟨#[c1]⟩, nn, rfl, hint, (by decide : 1 ≤ 640), _, rfl, _, _, rfl, ⟨by omega, rfl⟩, _, _, rfl, rfl, _, rfl, tb, rfl, by omega, fun t ht => ⟨by show 4 ≤ _; omega, fun r hr2 => ?_⟩⟩
    have s8 := same_upd ht (o := .lst ((signs tb).map V.str))
    have s9 := same_upd hr2 (o := .lst [V.str ⟨#[c0]⟩, V.int nn, V.bl (decide ((2 : Int) < (hd.length : Nat))), V.ref t])
    have g1 := s9 _ _ (s8 _ _ g0)
    have zz : Fd d H' _ := Fd.same ((s7.trans s8).trans s9)
    refine ⟨l0, vs, _, rfl, rfl, g1, by omega, ⟨_, _, _, rfl⟩, vs ++ [V.ref r], upd_same, by rw [List.length_append, hn] <;> rfl, ?_, (z6.trans zz).new hl0, ?_⟩
    · intro v hv
      rcases List.mem_append.mp hv with hv | hv
      · exact scn_upd (scn_fd zz (hsc v hv))
      · rw [List.mem_singleton.mp hv]
        have nr : r ≠ l0 := fun e => by
          have := s8 _ _ g0
          rw [← e, hr2] at this
          cases this
        have nt : t ≠ l0 := fun e => by
          rw [← e, ht] at g0
          cases g0
        exact scn_upd ⟨r, t, _, nn, _, signs tb, rfl, upd_same, s9 _ _ upd_same, hm0, htb, hn1, hn3, by omega, nr, nt⟩
    · rw [upd_ne hal]
      exact zz.lst h6
  · obtain ⟨⟨u3, u4, u5, rfl⟩, vs, hvs, hn, hsc, z6, h6⟩ := hP
    have hn : vs.length = ws.length := by rw [hn, List.length_map]
    have y6 := y3.trans z6
    refine ⟨_, rfl, (d, 6), rfl, ⟨y6.feed hF, (by decide : 1 ≤ 6), (by decide : 6 ≤ 100000)⟩, fun r7 H7 q7 => ?_⟩
    obtain ⟨⟨way, hway, rfl⟩, x7⟩ := q7
    have x7 : Fd d H' H7 := x7
    refine ⟨_, rfl, _, rfl, _, _, rfl, .inl ⟨vs, SqL.of (x7.lst hvs), rfl⟩, (d, vs.length), rfl, ⟨(y6.trans x7).feed hF, by show 1 ≤ vs.length; omega, by show vs.length ≤ _; omega⟩, fun r8 H8 q8 => ?_⟩
    obtain ⟨⟨k, hk, rfl⟩, x8⟩ := q8
    have hk : k < vs.length := hk
    have x8 : Fd d H7 H8 := x8
    have g8 := x8.lst (x7.lst hvs)
    refine ⟨_, rfl, _, rfl, (d, l0, vs), rfl, ⟨((y6.trans x7).trans x8).feed hF, SqL.of g8, by show 1 ≤ vs.length; omega, by show vs.length ≤ _; omega⟩, fun r9 H9 q9 => ?_⟩
    obtain ⟨hr9, x9⟩ := q9
    have x9 : Fd d H8 H9 := x9
    have x79 := (x7.trans x8).trans x9
    obtain ⟨po, to, so, fo, ho, tso, rfl, ho1, ho2, hso, _⟩ := scn_fd x79 (hsc r9 hr9)
    refine ⟨po, _, 0, .str so, rfl, rfl, SqL.of ho1, atI_nat (j := 0) rfl, ⟨_, _, _, rfl, ?_⟩⟩
    have g9 := x79.lst hvs
    have sc9 : ∀ v ∈ vs, ScN l0 4 H9 v := fun v hv => scn_fd x79 (hsc v hv)
    have z9 := z6.trans x79
    have hvn : 1 ≤ vs.length ∧ vs.length ≤ 4 := by omega
    clear hvs hsc z6 x7 x8 x9 g8 ho1 ho2
    dsimp only [List.set_cons_zero, List.set_cons_succ]
    obtain ⟨N, hN⟩ : ∃ N, N = vs.length := ⟨_, rfl⟩
    rw [← hN] at hk hvn
    have f9 : FA d l0 5 H3 H9 N := (show FA d l0 4 H3 H9 N from ⟨vs, g9, hN.symm, sc9, z9⟩).mono (by decide)
    have b9 : FA d l0 4 H3 H9 N := ⟨vs, g9, hN.symm, sc9, z9⟩
    clear sc9 g9 z9 f9 hN
    refine seq_cut (t := tIfS _ _ _) (fun σ' H' => σ' = [some (V.ref d), some (V.ref p3), some (V.ref l0), u3, u4, u5, some (V.int (way : Nat)), some (V.int (k : Nat)), some (V.str so)] ∧ FA d l0 5 H3 H' N) (fun nx' hnx => ?_) ?_
    · obtain ⟨vs, hv, hn, hsc, z⟩ := b9
      have hkv : k < vs.length := by omega
      have hk0 := List.getElem?_eq_getElem hkv
      obtain ⟨p, t, sg, f, b, ts, ev, hp, ht, r1, r2, r3, r4, r5, n1, n2⟩ := hsc _ (List.getElem_mem hkv)
      rw [ev] at hk0
      have skip := hnx _ _ ⟨rfl, vs, hv, hn, fun v h => (hsc v h).mono (by decide), z⟩
      refine ⟨_, rfl, rfl, _, rfl, ite2 (fun _ => ?_) (fun _ => skip)⟩
      refine ⟨_, rfl, _, rfl, _, rfl, l0, vs, _, _, rfl, rfl, SqL.of hv, atI_nat hk0, p, _, 3, .ref t, rfl, rfl, SqL.of hp, atI_nat (j := 3) rfl, t, vS ts, rfl, .inl (SqL.of ht), rfl, flat_vS ts, _, rfl, ite2 (fun _ => ?_) (fun _ => skip)⟩
      refine ⟨_, rfl, _, rfl, l0, vs, _, _, rfl, rfl, SqL.of hv, atI_nat hk0, _, rfl, p, _, rfl, SqL.of hp, fun q1 hq1 => ?_⟩
      have s1 := same_upd hq1 (o := .lst (cutV [V.str sg, V.int f, V.bl b, V.ref t] none (some 3)))
      refine ⟨_, rfl, _, rfl, l0, vs, _, _, rfl, rfl, SqL.of (s1 _ _ hv), atI_nat hk0, p, _, 3, .ref t, rfl, rfl, SqL.of (s1 _ _ hp), atI_nat (j := 3) rfl, _, rfl, by show 1 ≤ _; omega, fun q2 hq2 => ?_⟩
      have s2 := same_upd hq2 (o := .lst [V.str so])
      refine ⟨t, q2, vS ts, [V.str so], rfl, rfl, s2 _ _ (s1 _ _ ht), upd_same, by rw [List.length_map]; show ts.length + 1 ≤ _; omega, fun q3 hq3 => ⟨by show 1 ≤ _; omega, fun q4 hq4 => ?_⟩⟩
      have s3 := same_upd hq3 (o := .lst (vS ts ++ [V.str so]))
      have s4 := same_upd hq4 (o := .lst [V.ref q3])
      refine ⟨q1, q4, [V.str sg, V.int f, V.bl b], [V.ref q3], rfl, rfl, s4 _ _ (s3 _ _ (s2 _ _ upd_same)), upd_same, by show 4 ≤ _; omega, fun q5 hq5 => ?_⟩
      have s5 := same_upd hq5 (o := .lst [V.str sg, V.int f, V.bl b, V.ref q3])
      have sa := (((s1.trans s2).trans s3).trans s4).trans s5
      refine ⟨_, rfl, _, rfl, l0, vs, _, k, rfl, rfl, sa _ _ hv, ixN_nat hkv, hnx _ _ ⟨rfl, fa_set hl0 hn (fun v h => (hsc v h).mono (by decide)) z (Fd.same sa) ?_⟩⟩
      refine ⟨q5, q3, sg, f, b, ts ++ [so], rfl, upd_same, ?_, r1, fun y hy => ?_, r3, r4, ?_, ?_, ?_⟩
      · rw [← vS_app]
        exact s5 _ _ (s4 _ _ upd_same)
      · rcases List.mem_append.mp hy with hy | hy
        · exact r2 y hy
        · rw [List.mem_singleton.mp hy]; exact hso
      · rw [List.length_append, List.length_singleton]; omega
      · exact fresh_ne (s4 _ _ (s3 _ _ (s2 _ _ (s1 _ _ hv)))) hq5
      · exact fresh_ne (s2 _ _ (s1 _ _ hv)) hq3
    rintro _ H10 ⟨rfl, b10⟩
    clear b9
    refine seq_cut (t := tIfS _ _ _) (fun σ' H' => σ' = [some (V.ref d), some (V.ref p3), some (V.ref l0), u3, u4, u5, some (V.int (way : Nat)), some (V.int (k : Nat)), some (V.str so)] ∧ FA d l0 5 H3 H' N) (fun nx' hnx => ?_) ?_
    · obtain ⟨vs, hv, hn, hsc, z⟩ := b10
      have hkv : k < vs.length := by omega
      have hk0 := List.getElem?_eq_getElem hkv
      obtain ⟨p, t, sg, f, b, ts, ev, hp, ht, r1, r2, r3, r4, r5, n1, n2⟩ := hsc _ (List.getElem_mem hkv)
      rw [ev] at hk0
      have skip := hnx _ _ ⟨rfl, vs, hv, hn, hsc, z⟩
      refine ⟨_, rfl, rfl, _, rfl, ite2 (fun _ => ?_) (fun _ => skip)⟩
      refine ⟨_, rfl, _, rfl, l0, vs, _, _, rfl, rfl, SqL.of hv, atI_nat hk0, p, _, 0, .str sg, rfl, rfl, SqL.of hp, atI_nat (j := 0) rfl, _, rfl, (d, 3), rfl, ⟨(y3.trans z).feed hF, (by decide : 1 ≤ 3), (by decide : 3 ≤ 100000)⟩, fun ra H11 qa => ?_⟩
      obtain ⟨⟨kk, hkk, rfl⟩, xa⟩ := qa
      have hkk : kk < 3 := hkk
      have xa : Fd d H10 H11 := xa
      have hv := xa.lst hv
      refine ⟨_, _, rfl, rfl, by show 2 ≤ _; omega, fun q1 hq1 => ?_⟩
      have s1 := same_upd hq1 (o := .lst [V.str sg, V.int (1 + (kk : Nat))])
      refine ⟨_, rfl, _, rfl, l0, vs, _, _, rfl, rfl, SqL.of (s1 _ _ hv), atI_nat hk0, _, rfl, p, _, rfl, SqL.of (s1 _ _ (xa.lst hp)), fun q2 hq2 => ?_⟩
      have s2 := same_upd hq2 (o := .lst [V.bl b, V.ref t])
      refine ⟨q1, q2, [V.str sg, V.int (1 + (kk : Nat))], [V.bl b, V.ref t], rfl, rfl, s2 _ _ upd_same, upd_same, by show 4 ≤ _; omega, fun q3 hq3 => ?_⟩
      have s3 := same_upd hq3 (o := .lst [V.str sg, V.int (1 + (kk : Nat)), V.bl b, V.ref t])
      have sa := (s1.trans s2).trans s3
      refine ⟨_, rfl, _, rfl, l0, vs, _, k, rfl, rfl, sa _ _ hv, ixN_nat hkv, hnx _ _ ⟨rfl, fa_set hl0 hn hsc z (xa.trans (Fd.same sa)) ?_⟩⟩
      exact ⟨q3, t, sg, _, b, ts, rfl, upd_same, sa _ _ (xa.lst ht), r1, r2, by omega, by omega, r5, fresh_ne (s2 _ _ (s1 _ _ hv)) hq3, n2⟩
    rintro _ H12 ⟨rfl, b12⟩
    clear b10
    refine seq_cut (t := tIfS _ _ _) (fun σ' H' => σ' = [some (V.ref d), some (V.ref p3), some (V.ref l0), u3, u4, u5, some (V.int (way : Nat)), some (V.int (k : Nat)), some (V.str so)] ∧ FA d l0 5 H3 H' N) (fun nx' hnx => ?_) ?_
    · obtain ⟨vs, hv, hn, hsc, z⟩ := b12
      have hkv : k < vs.length := by omega
      have hk0 := List.getElem?_eq_getElem hkv
      obtain ⟨p, t, sg, f, b, ts, ev, hp, ht, r1, r2, r3, r4, r5, n1, n2⟩ := hsc _ (List.getElem_mem hkv)
      rw [ev] at hk0
      have skip := hnx _ _ ⟨rfl, vs, hv, hn, hsc, z⟩
      refine ⟨_, rfl, rfl, _, rfl, ite2 (fun _ => ?_) (fun _ => skip)⟩
      refine ⟨_, rfl, _, _, rfl, rfl, _, rfl, ite2 (fun _ => ?_) (fun _ => skip)⟩
      refine ⟨_, rfl, _, rfl, l0, vs, _, _, rfl, rfl, SqL.of hv, atI_nat hk0, _, rfl, p, _, rfl, SqL.of hp, fun q1 hq1 => ?_⟩
      have s1 := same_upd hq1 (o := .lst [V.str sg, V.int f])
      refine ⟨_, rfl, _, rfl, l0, vs, _, _, rfl, rfl, SqL.of (s1 _ _ hv), atI_nat hk0, p, _, 2, .bl b, rfl, rfl, SqL.of (s1 _ _ hp), atI_nat (j := 2) rfl, b, rfl, ?_⟩
      refine ⟨_, rfl, _, rfl, l0, vs, _, _, rfl, rfl, SqL.of (s1 _ _ hv), atI_nat hk0, p, _, 3, .ref t, rfl, rfl, SqL.of (s1 _ _ hp), atI_nat (j := 3) rfl, by show 2 ≤ _; omega, fun q2 hq2 => ?_⟩
      have s2 := same_upd hq2 (o := .lst [V.bl (!b), V.ref t])
      refine ⟨q1, q2, [V.str sg, V.int f], [V.bl (!b), V.ref t], rfl, rfl, s2 _ _ upd_same, upd_same, by show 4 ≤ _; omega, fun q3 hq3 => ?_⟩
      have s3 := same_upd hq3 (o := .lst [V.str sg, V.int f, V.bl (!b), V.ref t])
      have sa := (s1.trans s2).trans s3
      refine ⟨_, rfl, _, rfl, l0, vs, _, k, rfl, rfl, sa _ _ hv, ixN_nat hkv, hnx _ _ ⟨rfl, fa_set hl0 hn hsc z (Fd.same sa) ?_⟩⟩
      exact ⟨q3, t, sg, f, !b, ts, rfl, upd_same, sa _ _ ht, r1, r2, r3, r4, r5, fresh_ne (s2 _ _ (s1 _ _ hv)) hq3, n2⟩
    rintro _ H13 ⟨rfl, vs, hv, hn, hsc, z⟩
    exact ⟨_, rfl, hQ _ _ ⟨⟨l0, vs, rfl, hv, by omega, by omega, fun v h => (hsc v h).i (Nat.le_refl _)⟩, y3.trans z⟩⟩
end
end Fl

-- KD8
/-! nets: kinds by name, pairs -/
namespace Fl
open PySem PySem.Spec PyProof.Rows L2 TL RZ
structure Kd where
  tag : Str
  fee : Int
  has : Bool
  tb : List Str
def KnV (K : PySem.W.Frag) (H : Hp) (v : V) (k : Kd) : Prop := ∃ p t, v = .ref p ∧ SqT K H p [.str k.tag, .int k.fee, .bl k.has, .ref t] ∧ SqT K H t (vS k.tb)
structure KnOk (k : Kd) : Prop where
  tg : wOk k.tag
  tl : k.tag.length ≤ 8
  f1 : 1 ≤ k.fee
  f3 : k.fee ≤ 3
  tn : k.tb.length ≤ 5
  tw : ∀ x ∈ k.tb, wOk x ∧ x.length ≤ 8
structure NetV (K : PySem.W.Frag) (H : Hp) (net : Addr) (vs : List V) (ks : List Kd) (ask : Str) : Prop where
  q : ∃ q, SqT K H net [.ref q, .str ask] ∧ SqT K H q vs
  l : vs.length = ks.length
  k : ∀ (i : Nat) (v : V) (kd : Kd), vs[i]? = some v → ks[i]? = some kd → KnV K H v kd
  o : ∀ kd ∈ ks, KnOk kd
  a : ∃ kd ∈ ks, kd.tag = ask
  n1 : 1 ≤ vs.length
  n4 : vs.length ≤ 4
abbrev spKind (K : PySem.W.Frag) : Sp := Pr (fun q : Addr × Str × List V × List Kd × Str => [.ref q.1, .str q.2.1]) (fun q H => NetV K H q.1 q.2.2.1 q.2.2.2.1 q.2.2.2.2 ∧ ∃ kd ∈ q.2.2.2.1, kd.tag = q.2.1)
  (fun q H r H' => (∃ kd ∈ q.2.2.2.1, kd.tag = q.2.1 ∧ KnV K H' r kd) ∧ Same H H')
theorem knv_same {K : PySem.W.Frag} {H H' : Hp} {v : V} {k : Kd} (s : TupX H H') (h : KnV K H v k) : KnV K H' v k := by
  obtain ⟨p, t, e, h1, h2⟩ := h
  exact ⟨p, t, e, sqT_tupX s h1, sqT_tupX s h2⟩
section
variable {P : Program} {w : World} {K : PySem.W.Frag} {mg : Str → Option Value} {base : Heap}
theorem ok_law_kind (T : Tx K mg) : OkF P w K mg base CX0 1 "_law_kind" ["_law_net", "_law_tag"] (spKind K) := by
  have sc : FnScope ["_law_net", "_law_tag", "_law_kind_here"] ["_law_net", "_law_tag"] (defScope (topS 47)) := ⟨rfl, rfl, rfl, by decide +kernel, rfl, by decide +kernel, by decide +kernel⟩
  refine okF T 31 47 rfl sc (fun _ _ _ _ _ _ us hl => match us, hl with | [_, _], _ => rfl) (fun vs H Q E ⟨_, e, _⟩ => by rw [e] <;> rfl) fun cdv A outer s H vs Q E hr ⟨⟨net, tag, vs0, ks, ask⟩, e, ⟨hN, hv⟩, hQ⟩ => ?_
  have e : vs = [V.ref net, V.str tag] := e
  subst e
  have hN : NetV K H net vs0 ks ask := hN
  have hv : ∃ kd ∈ ks, kd.tag = tag := hv
  obtain ⟨q, hq1, hq2⟩ := hN.q
  have n4 := hN.n4
  have hS : 200000 ≤ sizeLine := by rw [sizeLine_eq]; decide
  refine ⟨_, PSs.nox (pss_one (ps_ret (pe_ix ix_list (pe_lc (own := [("_law_kind_here", 2)]) (g := gName 2) (by rfl) sc.nd (pi_tup (pe_ix ix_tup (pv 0) pe_int (fun _ _ => rfl))) (blkOk_by (own := [("_law_kind_here", 2)]) (N := ["_law_net", "_law_tag", "_law_kind_here"]) (sc := (defScope (topS 47))) (by decide +kernel)) (fun _ _ _ _ _ => (pg_name (i := 2) sc.nd rfl (.inl rfl) (hf := .inr rfl))) (fun _ _ _ _ _ => pts_one (pt_cmpR op_eq (pe_ix (ix_tupK (K := K) rfl) (pv 2) pe_int (fun _ _ => rfl)) (pv 1) (nomark _))) (fun _ _ _ _ _ => (pv 2))) pe_int (fun _ _ => rfl)))), ?_⟩
  refine ⟨_, rfl, net, _, 0, .ref q, rfl, rfl, hq1, atI_nat (j := 0) rfl, q, rfl, ⟨vs0, hq2⟩, fun D hD => ?_⟩
  refine lcw (walk_tup (K := K) (a := q) (xs := vs0)) fram_same hD (by omega) (fun H' s' => sqT_tupX (tupX_same s') hq2) (fun i acc _ => (∀ v ∈ acc, ∃ kd ∈ ks, kd.tag = tag ∧ KnV K H v kd) ∧ (acc = [] → ∀ (j : Nat) (kd : Kd), j < i → ks[j]? = some kd → kd.tag ≠ tag)) (fun _ _ _ _ _ h => h)
    ⟨fun _ h => (nomatch h), fun _ j kd hj => absurd hj (Nat.not_lt_zero j)⟩ (fun i x acc H2 H3 hi r y hI hacc Zk Zs hk hz => ?_) (fun H2 acc r hacc hI => ?_)
  · obtain ⟨rfl, hx⟩ := y
    have hi2 : i < ks.length := by rw [← hN.l]; exact hi
    have hkd := List.getElem?_eq_getElem hi2
    have hkn := hN.k i x _ hx hkd
    obtain ⟨p, t, rfl, hp, ht⟩ := hkn
    have hp2 := sqT_tupX (K := K) (tupX_same r) hp
    refine ⟨rfl, _, rfl, p, _, 0, .str (ks[i].tag), rfl, rfl, hp2, atI_nat (j := 0) rfl, _, rfl, rfl, _, rfl, ?_⟩
    rw [dec_str]
    by_cases he : ks[i].tag = tag
    · refine ite_t (decide_eq_true he) ⟨_, rfl, hk _ _ (Same.refl _) ⟨fun v hv => ?_, fun e0 => absurd e0 (by simp)⟩⟩
      rcases List.mem_append.mp hv with hv | hv
      · exact hI.1 v hv
      · rw [List.mem_singleton.mp hv]
        exact ⟨_, List.getElem_mem hi2, he, p, t, rfl, hp, ht⟩
    · refine ite_f (decide_eq_false he) (hz _ (Same.refl _) ⟨hI.1, fun e0 j kd hj hjk => ?_⟩)
      by_cases h2 : j < i
      · exact hI.2 e0 j kd h2 hjk
      · have : j = i := by omega
        subst this
        rw [hkd] at hjk
        rw [← Option.some.inj hjk]
        exact he
  · cases acc with
    | nil =>
      obtain ⟨kd, hm, ht⟩ := hv
      obtain ⟨j, hj, e⟩ := List.mem_iff_getElem.mp hm
      exact absurd ht (hI.2 rfl j kd (by rw [hN.l]; exact hj) (by rw [← e]; exact List.getElem?_eq_getElem hj))
    | cons v vr =>
      obtain ⟨kd, hm, ht, hk⟩ := hI.1 v List.mem_cons_self
      exact ⟨D, _, 0, v, rfl, rfl, SqL.of hacc, atI_nat (j := 0) rfl, hQ _ _ ⟨⟨kd, hm, ht, knv_same (tupX_same r) hk⟩, r⟩⟩
end
end Fl

-- KE3
/-! sorted(a list of data): some order of its items -/
namespace Fl
open PySem PySem.Spec PyProof.Rows L2
def rSortD (K : PySem.W.Frag) : List V → Hp → VK → Prop := fun vs H Q => ∃ (β : Type) (a : Addr) (bs : List β) (fv : β → V) (fd : β → PyData), vs = [V.ref a] ∧ SqL K H a (bs.map fv) ∧ DpAll K H (bs.map fv) (bs.map fd) ∧ PySem.W.AllAlike (bs.map fd) ∧ PySem.W.Sortable (bs.map fd) ∧
  (∀ b ∈ bs, (fd b).depth ≤ 50) ∧ ∀ (cs : List β) (p : Addr), cs.Perm bs → H p = none → Q (.ref p) (upd H p (.lst (cs.map fv)))
section
variable {X : Cx} {pins : List (Addr × Obj)} {σ : L2.St} {H : Hp} {s : Shared} {β : Type} {fv : β → V} {fd : β → PyData}
theorem each_dp (I : Inv X pins σ H s) : ∀ {bs : List β} {us : List Value}, DpAll X.K H (bs.map fv) (bs.map fd) → Vals (bs.map fv) us → PySem.W.EachIs (fun u b => RelV (fv b) u) us bs ∧ PySem.W.EachIs (fun u b => ∃ as, PySem.Reads s.heap u (fd b) as) us bs
  | [], us, _, r => by
    cases us with
    | nil => exact ⟨.nil, .nil⟩
    | cons _ _ => cases r
  | b :: bs, us, d, r => by
    cases us with
    | nil => cases r
    | cons u us =>
      cases d with
      | cons d1 d2 =>
        cases r with
        | cons r1 r2 =>
          obtain ⟨as, h1⟩ := Dp.reads I (fd b) (fv b) u d1 r1
          obtain ⟨h2, h3⟩ := each_dp I d2 r2
          exact ⟨.cons r1 h2, .cons ⟨as, h1⟩ h3⟩
theorem vals_each : ∀ {us : List Value} {bs : List β}, PySem.W.EachIs (fun u b => RelV (fv b) u) us bs → Vals (bs.map fv) us
  | _, _, .nil => .nil
  | _, _, .cons h r => .cons h (vals_each r)
theorem cr_sortD (hu : X.A.units + 61 < cLine) : CallR X (.builtin "sorted") (rSortD X.K) := by
  intro pins s σ H vs us Q I r h
  obtain ⟨β, a, bs, fv, fd, rfl, hs, hd, hal, hk, hdp, q⟩ := h
  obtain ⟨its, rv, hl, hz⟩ := I.list hs
  rw [Vals.ref1 r]
  obtain ⟨e1, e2⟩ := each_dp I hd rv
  rw [List.length_map] at hz
  refine PySem.W.sorted_data (enc := fd) hl.isList e1 e2 hal hk hz (fun b hb => ?_) fun out ho eo => ?_
  · have := hdp b hb
    omega
  · obtain ⟨ep, he'⟩ := PyProof.Rows.sortedAll_at s.heap its out.toArray
    have hp := List.mergeSort_perm bs (PySem.W.dataLe false fd)
    have hlen : ((bs.mergeSort (PySem.W.dataLe false fd)).map fv).length ≤ sizeLine := by rw [List.length_map, hp.length_eq]; exact hz
    exact ⟨.ref _, upd H (s.heap.objs.size + 1) (.lst ((bs.mergeSort (PySem.W.dataLe false fd)).map fv)), I.laid (t' := s.toks) (fun _ _ => PyProof.Rows.sortedAll_old) (Nat.le_succ _) ⟨hlen, out, ep, vals_each eo, he'⟩, rfl, q _ _ hp (I.hok.fresh (Nat.le_succ _))⟩
end
end Fl

-- KE4
/-! items of a display behind one that writes a text -/
namespace Fl
open PySem PySem.Spec PyProof.Rows L2
section
variable {X : Cx} {f : Expr} {es : List Expr} {tf : TE} {ta : TA} {a : Str} {j : Nat} {p1 p2 : Pos}
/-- "a" + f, then the others: they find a token out -/
theorem pa_gain (hf : PE X f tf) (hr : PAT X es ta) (hs : starEach (.BinOp (.Constant (.str a) j p1) .Add f p2 :: es) X.env = (false, eval (.BinOp (.Constant (.str a) j p1) .Add f p2) X.env) :: starEach es X.env := by rfl) :
    PA X (.BinOp (.Constant (.str a) j p1) .Add f p2 :: es) (tCons (tOp (fun x y H Q => ∃ i j, x = .str i ∧ y = .str j ∧ i.length + j.length ≤ sizeLine ∧ Q (.str (i ++ j)) H) (tC (.str a)) tf) ta) := by
  refine ⟨fun pos pins s σ H Q I h => ?_⟩
  rw [hs]
  show wpAny _ _ (spliced ((false, _) :: backTo pos (starEach es X.env))) _ _ s
  refine Calls.spliced_cons (wpAny_BinOp (Calls.Constant_str ?_))
  have J : Inv X pins σ H { s with toks := s.toks + 1 } := I.tok _
  have one : 1 ≤ ({ s with toks := s.toks + 1 } : Shared).toks := Nat.le_add_left 1 s.toks
  refine wpAny_mono (wpAny_toks_of one (hf.run pins _ σ H _ J h)) (fun u s2 q => ?_) fun _ _ z => z.2
  obtain ⟨k2, y, H2, I2, r2, q2⟩ := q
  refine wpAny_mono (wpAny_toks_of k2 (op_add_str (X := X) pins s2 σ H2 (.str a) y (.str a s.toks) u (fun x H1 => ta σ H1 fun xs H2 => Q (x :: xs) H2) I2 ⟨_, rfl⟩ r2 q2)) (fun v s3 q => ?_) fun _ _ z => z.2
  obtain ⟨k3, x, H3, I3, r3, q3⟩ := q
  exact thn (hr pos pins s3 σ H3 _ k3 I3 q3) fun us s4 ⟨xs, H4, I4, r4, q4⟩ => ⟨x :: xs, H4, I4, .cons r3 r4, q4⟩
end
end Fl

-- KN1
/-! defs that say repr: called where no guard stands -/
namespace Fl
open PySem PySem.Spec PyProof.Rows L2
structure FnG (P : Program) (w : World) (K : PySem.W.Frag) (mg : Str → Option Value) (base : Heap) (CX : CXT) (k : Nat) (f : Addr) (fd : FuncData) (ps : List Str) (sp : Sp) : Prop where
  len : ∀ (vs : List V) (H : Hp) (Q : VK) (E : XK), sp vs H Q E → vs.length = ps.length
  go : ∀ (A : Around) (outer : List Env) (s : Shared) (H : Hp) (args : Args) (us : List Value) (vs : List V) (Q : VK) (E : XK), A.guards = some [] → Room k A → Env0 P w K mg base A outer s H →
    BindsTo s fd args (ps.zip us) → Vals vs us → sp vs H Q E → codeAny (model P w) A (.call (.ref f) args) (CR CX outer P w H s Q E) s
structure OkG (P : Program) (w : World) (K : PySem.W.Frag) (mg : Str → Option Value) (base : Heap) (CX : CXT) (k : Nat) (x : Str) (ps : List Str) (sp : Sp) : Prop where
  ex : ∃ fd, mg x = some (.ref (He.ga K x)) ∧ PySem.W.keepIn K (.ref (He.ga K x)) = true ∧ Binds K fd ps [] ∧ FnG P w K mg base CX k (He.ga K x) fd ps sp
section
variable {P : Program} {w : World} {K : PySem.W.Frag} {mg : Str → Option Value} {base : Heap} {CX : CXT} {k : Nat} {N ps : List Str} {sp : Sp}
theorem okG (T : Tx K mg) (i j : Nat) {x : Str} (h : fnL[i]? = some (fnD x j)) (S : FnScope N ps (defScope (topS j)))
    (hb : ∀ (kV doc pm : Value) (an : Option Addr) (cdv ct : Value) (us : List Value), us.length = ps.length → bindArgs (PySem.W.fnOf x x (defArgs (topS j)) (defBody (topS j)) (defScope (topS j)) .none kV doc pm an cdv ct) ⟨us, []⟩ = pure (ps.zip us))
    (len : ∀ vs H Q E, sp vs H Q E → vs.length = ps.length)
    (hbody : ∀ (A : Around) (outer : List Env) (s : Shared) (H : Hp) (vs : List V) (Q : VK) (E : XK), A.guards = some [] → Room k (A.deeper (envOfC x (defScope (topS j)) s.heap.objs.size (He.ga K x) (.ref (He.codeOf K (x, none))))) → sp vs H Q E →
      ∃ t, PSs (cxOf CX P w K mg base N x (defScope (topS j)) (He.ga K x) (.ref (He.codeOf K (x, none))) A outer s H E) (defBody (topS j)) t ∧ t { nx := fun _ H' => Q .non H', rt := Q } (start N vs) H) : OkG P w K mg base CX (k + 1) x ps sp := by
  obtain ⟨fd, hm, F⟩ := T.fn i j h
  have hB := F.bindsN hb
  obtain ⟨oc, od, dV, kV, doc, pm, an, cdv, ct, osl, rfl, lk, hcd, _, _⟩ := F.ex
  obtain ⟨c, ec⟩ := He.codeIn_ref hcd
  subst ec
  have ec : He.codeOf K (x, none) = c := He.codeOf_eq (p := (x, none)) lk rfl
  refine ⟨_, hm, F.kp, hB, len, fun A outer s H args us vs Q E hg hr e0 hbd r h => ?_⟩
  refine LamX.run_ofS lk hcd S hr e0 hbd r (len _ _ _ _ h) fun hr' => ?_
  have hz := hbody A outer s H vs Q E hg (by rw [ec]; exact hr') h
  rw [ec] at hz
  exact hz
theorem OkG.mono {l : Nat} (G : OkG P w K mg base CX k x ps sp) (h : k ≤ l) : OkG P w K mg base CX l x ps sp := by
  obtain ⟨fd, a, b, c, d⟩ := G.ex
  exact ⟨fd, a, b, c, d.len, fun A outer s H args us vs Q E hg hr => d.go A outer s H args us vs Q E hg (hr.mono h)⟩
end
section
variable {X : Cx} {CX : CXT} {k : Nat} {x : Str} {ps : List Str} {sp : Sp} {E : XK} {e : Expr} {es : List Expr} {p pos : Pos} {t : TA}
theorem pe_fnG (G : OkG X.prog X.w X.K X.mg X.base CX k x ps sp) (hgd : X.A.guards = some []) (hr : Room k X.A) (hx : Passes CX X E) (ha : PA X (e :: es) t) (hg : Gl X x := by rfl) (hdb : (x == ("__debug__" : Str)) = false := by decide)
    (he : starEach (e :: es) X.env = (false, eval e X.env) :: starEach es X.env := by rfl) (hpl : (backTo pos (starEach es X.env)).any (·.1) = false := by rfl) : PE X (.Call (.Name x p) (e :: es) [] pos) (tFn sp E t) := by
  obtain ⟨fd, hm, hk, hb, F⟩ := G.ex
  refine ⟨fun pins s σ H Q I h => wpAny_Call_Name_kw (ld_glob I hg hm ?_ hdb)⟩
  refine PySem.W.callWith_K (h₀ := X.base) I.ok.mod.kin hk (thn (ha.run pos pins s σ H _ I h) ?_) he hpl
  rintro us s1 ⟨vs, H1, I1, r, q⟩
  have hl : us.length = ps.length := by
    rw [← r.length]
    exact F.len _ _ _ _ q
  have hB := hb s1 us I1.kIn (by rw [List.append_nil]; exact hl)
  rw [List.append_nil] at hB
  refine ⟨I1.kIn, wpAny_call (codeAny_mono (F.go X.A X.stack s1 H1 ⟨us, []⟩ us vs Q E hgd hr I1.env0 hB r q) fun z s2 hz => ?_)⟩
  match z, hz with
  | .error y, hz => exact hx pins σ H1 s1 y s2 I1 hz
  | .ok (.ret u), hz => exact I1.after hz
end
end Fl

-- KD9
/-! pairs of a net -/
namespace Fl
open PySem PySem.Spec PyProof.Rows L2 TL RZ
theorem sok_w {z : Str} (h : wOk z) : sok z := sok_iff.mpr fun c hc => by
  have := (h.2 c hc).1
  omega
theorem hu65_of {k : Nat} {A : Around} (r : Room k A) : A.units + 65 < cLine := by have := r.un; omega
abbrev spPairs (K : PySem.W.Frag) : Sp := Pr (fun q : Addr × Int × List V × List Kd × Str => [.ref q.1, .int q.2.1]) (fun q H => NetV K H q.1 q.2.2.1 q.2.2.2.1 q.2.2.2.2 ∧ -10 ≤ q.2.1 ∧ q.2.1 ≤ 5)
  (fun q H r H' => (∃ p vs, r = .ref p ∧ H' p = some (.lst vs) ∧ vs.length ≤ 100000) ∧ Same H H')
/-- pairs as they lie: refs to tuples of a text and an int -/
inductive PvAll (K : PySem.W.Frag) (H : Hp) : List V → List (Str × Nat) → Prop
  | nil : PvAll K H [] []
  | cons {p : Addr} {vs : List V} {q : Str × Nat} {ps : List (Str × Nat)} : SqT K H p [.str q.1, .int (q.2 : Nat)] → PvAll K H vs ps → PvAll K H (.ref p :: vs) (q :: ps)
section
variable {K : PySem.W.Frag} {H H' : Hp}
theorem pv_x (x : TupX H H') : ∀ {vs : List V} {ps : List (Str × Nat)}, PvAll K H vs ps → PvAll K H' vs ps
  | _, _, .nil => .nil
  | _, _, .cons h r => .cons (sqT_tupX x h) (pv_x x r)
theorem pv_len : ∀ {vs : List V} {ps : List (Str × Nat)}, PvAll K H vs ps → vs.length = ps.length
  | _, _, .nil => rfl
  | _, _, .cons _ r => congrArg (· + 1) (pv_len r)
theorem pv_snoc {p : Addr} {q : Str × Nat} (h : SqT K H p [.str q.1, .int (q.2 : Nat)]) : ∀ {vs : List V} {ps : List (Str × Nat)}, PvAll K H vs ps → PvAll K H (vs ++ [.ref p]) (ps ++ [q])
  | _, _, .nil => .cons h .nil
  | _, _, .cons h2 r => .cons h2 (pv_snoc h r)
theorem pv_at : ∀ {vs : List V} {ps : List (Str × Nat)} {i : Nat} {q : Str × Nat}, PvAll K H vs ps → ps[i]? = some q → ∃ p, vs[i]? = some (.ref p) ∧ SqT K H p [.str q.1, .int (q.2 : Nat)]
  | _, _, _, _, .nil, e => by cases e
  | _, _, 0, _, .cons h _, e => by
    rw [List.getElem?_cons_zero] at e
    cases e
    exact ⟨_, rfl, h⟩
  | _, _, i + 1, _, .cons _ r, e => pv_at (i := i) r (by rw [List.getElem?_cons_succ] at e; exact e)
theorem pv_dp : ∀ {vs : List V} {ps : List (Str × Nat)}, PvAll K H vs ps → DpAll K H vs (ps.map fun q => .tuple [.str q.1, .int (q.2 : Nat)])
  | _, _, .nil => .nil
  | _, _, .cons h r => .cons (.tup h (.cons (.str _) (.cons (.int _) .nil))) (pv_dp r)
end
abbrev pvD (q : Str × Nat) : PyData := .tuple [.str q.1, .int (q.2 : Nat)]
theorem lay_pv {z : Str} {n : Int} (h : sok z) : PyData.canLay0 (.tuple [.str z, .int n]) = true := by
  have h1 := lay_texts [z] fun x hx => by rw [List.mem_singleton.mp hx]; exact h
  have h2 : PyData.canLay0 (.str z) = true := by
    rw [List.map_cons, List.map_nil, PyData.canLayAll0, Bool.and_eq_true] at h1
    exact h1.1
  rw [PyData.canLay0, PyData.canLayAll0, h2, PyData.canLayAll0, PyData.canLayAll0]
  rfl
theorem lay_pvs : ∀ ps : List (Str × Nat), (∀ q ∈ ps, sok q.1) → PyData.canLayAll0 (ps.map pvD) = true
  | [], _ => rfl
  | q :: r, h => by
    rw [List.map_cons, PyData.canLayAll0, lay_pvs r fun x hx => h x (List.mem_cons_of_mem _ hx), lay_pv (h q List.mem_cons_self)]
    rfl
theorem depth_pv (z : Str) (n : Int) : PyData.depth (.tuple [.str z, .int n]) ≤ 1 := by
  rw [PyData.depth, PyData.depthAll, PyData.depthAll, PyData.depthAll, PyData.depth, PyData.depth]
  decide
theorem depth_pvs : ∀ ps : List (Str × Nat), PyData.depthAll (ps.map pvD) ≤ 1
  | [] => by simp [PyData.depthAll]
  | q :: r => by
    rw [List.map_cons, PyData.depthAll]
    exact Nat.max_le.mpr ⟨depth_pv q.1 _, depth_pvs r⟩
theorem shaped_pv {z : Str} {n : Int} (h : sok z) : SeqAt.shaped (.tuple [.str z, .int n]) = true := by
  unfold SeqAt.shaped
  have := depth_pv z n
  rw [lay_pv h, decide_eq_true (by omega)]
  rfl
theorem shaped_pvs {ps : List (Str × Nat)} (h : ∀ q ∈ ps, sok q.1) : SeqAt.shaped (.list (ps.map pvD)) = true := by
  unfold SeqAt.shaped
  have h1 := depth_pvs ps
  rw [PyData.canLay0, lay_pvs ps h, PyData.depth, decide_eq_true (by omega)]
  rfl
/-! ### the measure -/
def pot : List (Str × Nat) → Nat
  | [] => 0
  | q :: r => 5 ^ q.2 + pot r
theorem pot_snoc (q : Str × Nat) : ∀ l : List (Str × Nat), pot (l ++ [q]) = pot l + 5 ^ q.2
  | [] => by simp [pot]
  | x :: r => by
    rw [List.cons_append, pot, pot, pot_snoc q r]
    omega
theorem five_pos (n : Nat) : 1 ≤ 5 ^ n := Nat.pow_pos (by decide)
theorem pot_len : ∀ l : List (Str × Nat), l.length ≤ pot l
  | [] => Nat.le_refl _
  | q :: r => by
    have := pot_len r
    have h : 1 ≤ 5 ^ q.2 := five_pos _
    rw [List.length_cons, pot]
    omega
theorem pot_step {m k : Nat} (hm : 1 ≤ m) (hk : k ≤ m - 1) : 5 ^ k ≤ 5 ^ (m - 1) ∧ 5 ^ m = 5 * 5 ^ (m - 1) ∧ 1 ≤ 5 ^ (m - 1) := by
  refine ⟨Nat.pow_le_pow_right (by decide) hk, ?_, five_pos _⟩
  obtain ⟨j, rfl⟩ : ∃ j, m = j + 1 := ⟨m - 1, by omega⟩
  rw [Nat.pow_succ, Nat.add_sub_cancel]
  omega
theorem drop_snoc {α : Type} {l : List α} {a : Nat} (q : α) (h : a ≤ l.length) : (l ++ [q]).drop a = l.drop a ++ [q] := by
  rw [List.drop_append_of_le_length h]
theorem netv_x {K : PySem.W.Frag} {H H' : Hp} {net : Addr} {vs : List V} {ks : List Kd} {ask : Str} (x : TupX H H') (h : NetV K H net vs ks ask) : NetV K H' net vs ks ask := by
  obtain ⟨⟨q, h1, h2⟩, l, k, o, a, n1, n4⟩ := h
  exact ⟨⟨q, sqT_tupX x h1, sqT_tupX x h2⟩, l, fun i v kd e1 e2 => knv_same x (k i v kd e1 e2), o, a, n1, n4⟩
/-- the list of pairs, read up to a -/
structure PrI (K : PySem.W.Frag) (ks : List Kd) (l0 : Addr) (H : Hp) (vs : List V) (ps : List (Str × Nat)) : Prop where
  l : H l0 = some (.lst vs)
  p : PvAll K H vs ps
  o : ∀ q ∈ ps, (∃ kd ∈ ks, kd.tag = q.1) ∧ 1 ≤ q.2 ∧ q.2 ≤ 5
section
variable {P : Program} {w : World} {K : PySem.W.Frag} {mg : Str → Option Value} {base : Heap}
theorem ok_law_pairs (T : Tx K mg) : OkF P w K mg base CX0 3 "_law_pairs" ["_law_net", "_law_load"] (spPairs K) := by
  have sc : FnScope ["_law_net", "_law_load", "_law_found", "_law_at", "_law_own", "_law_mark", "_law_kind_here", "_law_pair"] ["_law_net", "_law_load"] (defScope (topS 48)) := ⟨rfl, rfl, rfl, by decide +kernel, rfl, by decide +kernel, by decide +kernel⟩
  refine okF T 32 48 rfl sc (fun _ _ _ _ _ _ us hl => match us, hl with | [_, _], _ => rfl) (fun vs H Q E ⟨_, e, _⟩ => by rw [e] <;> rfl) fun cdv A outer s H vs Q E hr ⟨⟨net, load, vs0, ks, ask⟩, e, ⟨hN, hl1, hl2⟩, hQ⟩ => ?_
  have e : vs = [V.ref net, V.int load] := e
  subst e
  have hN : NetV K H net vs0 ks ask := hN
  have hl1 : -10 ≤ load := hl1
  have hl2 : load ≤ 5 := hl2
  have hS : 200000 ≤ sizeLine := by rw [sizeLine_eq]; decide
  have hu65 := hu65_of hr
  refine ⟨_, PSs.nox (pss_cons (ps_par (i := 2) (j := 3) (by rfl) sc.nd rfl rfl (by decide) rfl rfl (pa_cons (pe_lst pa_nil) (pa_cons pe_int pa_nil)) (by rfl))
 (pss_cons (ps_if (pt_cmpR op_ge (pv 1) (pe_ix ix_tup (pe_fn (ok_law_kind T) (hr.mono (by decide)) pass0 (pa_cons (pv 0) (pa_cons (pe_ix ix_tup (pv 0) pe_int (fun _ _ => rfl)) pa_nil))) pe_int (fun _ _ => rfl)) (nomark _)) (pss_one (ps_expr (pe_bm PySem.F.plainAttrs_list PySem.F.slot_list_append PySem.F.type_list_append mt_append (pv 2) (pa_cons (pe_tup (pa_cons (pe_ix ix_tup (pv 0) pe_int (fun _ _ => rfl)) (pa_cons (pv 1) pa_nil))) pa_nil)))) pss_nil)
 (pss_cons (ps_while PassesOwn.never (pt_cmpR op_lt (pv 3) (pe_callB call_len rfl (T.bl (x := "len")) (by decide +kernel) (pa_cons (pv 2) pa_nil)) (nomark _)) (pss_cons (ps_par (i := 4) (j := 5) (by rfl) sc.nd rfl rfl (by decide) rfl rfl (pa_cons (pe_fn (ok_law_kind T) (hr.mono (by decide)) pass0 (pa_cons (pv 0) (pa_cons (pe_ix ix_tup (pe_ix ix_list (pv 2) (pv 3) (fun _ _ => rfl)) pe_int (fun _ _ => rfl)) pa_nil))) (pa_cons (pe_ix ix_tup (pe_ix ix_list (pv 2) (pv 3) (fun _ _ => rfl)) pe_int (fun _ _ => rfl)) pa_nil)) (by rfl))
 (pss_cons (ps_set (i := 3) sc.nd rfl (Or.inl rfl) (pe_op op_add (pv 3) pe_int))
 (pss_one (ps_for PassesOwn.never rfl (pi_tup (pe_ix ix_tup (pv 0) pe_int (fun _ _ => rfl))) (pg_name (i := 6) sc.nd rfl (.inl rfl) (hf := .inr rfl)) (pss_cons (ps_set (i := 7) sc.nd rfl (Or.inl rfl) (pe_tup (pa_cons (pe_ix ix_tup (pv 6) pe_int (fun _ _ => rfl)) (pa_cons (pe_op op_sub (pv 5) (pe_ix ix_tup (pv 4) pe_int (fun _ _ => rfl))) pa_nil))))
 (pss_one (ps_if (PW.pt (pw_and (pt_cmpR op_in_seq (pe_ix ix_tup (pv 6) pe_int (fun _ _ => rfl)) (pe_ix ix_tup (pv 4) pe_int (fun _ _ => rfl)) (by rfl)) (pw_and (pt_not (pt_val (pe_ix ix_tup (pv 6) pe_int (fun _ _ => rfl)))) (pw_and (pt_cmpR op_ge (pe_ix ix_tup (pv 7) pe_int (fun _ _ => rfl)) (pe_ix ix_tup (pv 6) pe_int (fun _ _ => rfl)) (nomark _)) (pw_and1 (pt_cmpR (op_notInD hu65) (pv 7) (pv 2) (by rfl))))))) (pss_one (ps_expr (pe_bm PySem.F.plainAttrs_list PySem.F.slot_list_append PySem.F.type_list_append mt_append (pv 2) (pa_cons (pv 7) pa_nil)))) pss_nil))))))))
 (pss_one (ps_ret (pv 2)))))), ?_⟩
  obtain ⟨qa, hqa1, hqa2⟩ := hN.q
  refine ⟨Nat.zero_le _, fun l0 hl0 => ⟨_, _, rfl, ?_⟩⟩
  have s1 : Same H (upd H l0 (.lst [])) := same_upd hl0
  have g1 := upd_same (H := H) (a := l0) (o := .lst [])
  have x1 := tupX_same s1
  dsimp only
  refine seq_cut (t := tIfS _ _ _) (fun σ' H' => σ' = [some (V.ref net), some (V.int load), some (V.ref l0), some (V.int 0), none, none, none, none] ∧ Same H H' ∧ ∃ vs ps, PrI K ks l0 H' vs ps ∧ pot ps ≤ 3125) (fun nx' hnx => ?_) ?_
  · refine ⟨_, rfl, _, rfl, _, rfl, net, _, 1, .str ask, rfl, rfl, sqT_tupX x1 hqa1, atI_nat (j := 1) rfl, (net, ask, vs0, ks, ask), rfl, ⟨netv_x x1 hN, hN.a⟩, fun r H2 q2 => ?_⟩
    obtain ⟨⟨kd, hm, ht, pk, tk, rfl, hk, _⟩, s2⟩ := q2
    have ok := hN.o kd hm
    have f1 := ok.f1
    refine ⟨pk, _, 1, .int kd.fee, rfl, rfl, hk, atI_nat (j := 1) rfl, _, _, rfl, rfl, _, rfl, ite2 (fun hb => ?_) (fun _ => hnx _ _ ⟨rfl, s1.trans s2, [], [], ⟨s2 _ _ g1, .nil, fun _ h => (nomatch h)⟩, by decide⟩)⟩
    have hb : kd.fee ≤ load := of_decide_eq_true hb
    obtain ⟨m, rfl⟩ : ∃ m : Nat, load = (m : Nat) := ⟨load.toNat, by omega⟩
    have y2 := x1.trans (tupX_same s2)
    refine ⟨_, rfl, .inl ⟨rfl, _, SqL.of (s2 _ _ g1)⟩, _, rfl, net, _, 1, .str ask, rfl, rfl, sqT_tupX y2 hqa1, atI_nat (j := 1) rfl, _, rfl, by show 2 ≤ _; omega, fun p hp => ?_⟩
    have s3 := same_upd hp (o := .tup [V.str ask, V.int (m : Nat)])
    refine ⟨l0, [], _, rfl, rfl, s3 _ _ (s2 _ _ g1), by show 0 < _; omega, hnx _ _ ⟨rfl, ?_, [.ref p], [(ask, m)], ⟨upd_same, .cons (.inl (.inl ?_)) .nil, fun q hq => ?_⟩, ?_⟩⟩
    · intro b o hb
      have nb : b ≠ l0 := fun e => by rw [e, hl0] at hb; cases hb
      rw [upd_ne nb]
      exact s3 _ _ (s2 _ _ (s1 _ _ hb))
    · have np : p ≠ l0 := fresh_ne (s2 _ _ g1) hp
      rw [upd_ne np]
      exact upd_same
    · rw [List.mem_singleton.mp hq]
      exact ⟨hN.a, by show 1 ≤ m; omega, by show m ≤ 5; omega⟩
    · have h5 : m ≤ 5 := by omega
      have : 5 ^ m ≤ 5 ^ 5 := Nat.pow_le_pow_right (by decide) h5
      show 5 ^ m + 0 ≤ 3125
      omega
  rintro _ H4 ⟨rfl, s4, vs1, ps1, hI1, hp1⟩
  refine ⟨fun m σ' H' => ∃ (a : Nat) (vs : List V) (ps : List (Str × Nat)) (u4 u5 u6 u7 : Option V), σ' = [some (V.ref net), some (V.int load), some (V.ref l0), some (V.int (a : Nat)), u4, u5, u6, u7] ∧ PrI K ks l0 H' vs ps ∧ Same H H' ∧ a ≤ ps.length ∧ a + pot (ps.drop a) ≤ 3125 ∧ m = pot (ps.drop a),
    ⟨_, 0, vs1, ps1, _, _, _, _, rfl, hI1, s4, Nat.zero_le _, by rw [List.drop_zero]; omega, rfl⟩, ?_⟩
  rintro m σ' H5 ⟨a, vs, ps, u4, u5, u6, u7, rfl, hI, s5, ha, hpot, rfl⟩
  have hlen := pv_len hI.p
  refine ⟨_, rfl, _, rfl, _, _, rfl, .inl ⟨vs, SqL.of hI.l, rfl⟩, _, _, rfl, rfl, _, rfl, ite2 (fun hb => ?_) (fun _ => ?_)⟩
  · have hb1 : ((a : Nat) : Int) < (vs.length : Nat) := of_decide_eq_true hb
    have hap : a < ps.length := by omega
    obtain ⟨q, hq⟩ : ∃ q, q = ps[a] := ⟨_, rfl⟩
    have hqa : ps[a]? = some q := by rw [hq]; exact List.getElem?_eq_getElem hap
    obtain ⟨⟨kd0, hk0, ht0⟩, hm1, hm5⟩ := hI.o q (List.mem_of_getElem? hqa)
    obtain ⟨pa, hva, hpa⟩ := pv_at hI.p hqa
    have hdrop : pot (ps.drop a) = 5 ^ q.2 + pot (ps.drop (a + 1)) := by
      rw [List.drop_eq_getElem_cons hap, pot, ← hq]
    refine ⟨fun σ' H' => ∃ (vs' : List V) (ps' : List (Str × Nat)) (u4 u5 u6 u7 : Option V), σ' = [some (V.ref net), some (V.int load), some (V.ref l0), some (V.int ((a + 1 : Nat) : Int)), u4, u5, u6, u7] ∧ PrI K ks l0 H' vs' ps' ∧ Same H H' ∧ a + 1 ≤ ps'.length ∧ pot (ps'.drop (a + 1)) + 1 ≤ pot (ps.drop a),
      fun σ' H' ⟨vs', ps', u4, u5, u6, u7, e, h1, h2, h3, h4⟩ => ⟨pot (ps'.drop (a + 1)), by omega, a + 1, vs', ps', u4, u5, u6, u7, e, h1, h2, h3, by omega, rfl⟩, ?_⟩
    have x5 := tupX_same s5
    refine ⟨_, rfl, _, rfl, _, rfl, l0, vs, _, .ref pa, rfl, rfl, SqL.of hI.l, atI_nat hva, pa, _, 0, .str q.1, rfl, rfl, hpa, atI_nat (j := 0) rfl, (net, q.1, vs0, ks, ask), rfl, ⟨netv_x x5 hN, kd0, hk0, ht0⟩, fun r H6 q6 => ?_⟩
    obtain ⟨⟨own, ho, hto, po, to, rfl, hpo, hto2⟩, s6⟩ := q6
    have hpo : SqT K H6 po [.str own.tag, .int own.fee, .bl own.has, .ref to] := hpo
    have s6 : Same H5 H6 := s6
    have x6 := tupX_same s6
    have oko := hN.o own ho
    have f1 := oko.f1
    refine ⟨_, rfl, _, rfl, l0, vs, _, .ref pa, rfl, rfl, SqL.of (s6 _ _ hI.l), atI_nat hva, pa, _, 1, .int (q.2 : Nat), rfl, rfl, sqT_tupX x6 hpa, atI_nat (j := 1) rfl, _, _, rfl, ?_⟩
    refine ⟨_, rfl, _, _, rfl, rfl, ?_⟩
    have s56 := s5.trans s6
    have x56 := tupX_same s56
    refine ⟨_, rfl, net, _, 0, .ref qa, rfl, rfl, sqT_tupX x56 hqa1, atI_nat (j := 0) rfl, qa, rfl, ⟨vs0, sqT_tupX x56 hqa2⟩, ?_⟩
    obtain ⟨hps1, hps2, _⟩ := pot_step (m := q.2) (k := q.2 - 1) hm1 (Nat.le_refl _)
    refine for_it (walk_tup (K := K) (a := qa) (xs := vs0)) (fun i σ' H' => ∃ (vs' : List V) (ps' : List (Str × Nat)) (u6 u7 : Option V), σ' = [some (V.ref net), some (V.int load), some (V.ref l0), some (V.int ((a + 1 : Nat) : Int)), some (V.ref po), some (V.int (q.2 : Nat)), u6, u7] ∧ PrI K ks l0 H' vs' ps' ∧ Same H H' ∧ TupX H6 H' ∧ a + 1 ≤ ps'.length ∧ pot (ps'.drop (a + 1)) ≤ pot (ps.drop (a + 1)) + i * 5 ^ (q.2 - 1))
      ⟨vs, ps, _, _, rfl, ⟨s6 _ _ hI.l, pv_x x6 hI.p, hI.o⟩, s56, TupX.refl _, hap, by omega⟩ (fun i σ' H' _ hP => ?_) (fun i x σ' H8 H7 hi hP hy => ?_) (fun σ' H' hP => ?_)
    · obtain ⟨_, _, _, _, _, _, s7, _⟩ := hP
      exact sqT_tupX (tupX_same s7) hqa2
    · obtain ⟨vs', ps', u6, u7, rfl, hI7, s7, x67, ha7, hp7⟩ := hP
      obtain ⟨rfl, hx⟩ := hy
      have n4 := hN.n4
      have hi4 : i < 4 := by omega
      have hi2 : i < ks.length := by rw [← hN.l]; exact hi
      have hkd := List.getElem?_eq_getElem hi2
      obtain ⟨kd, ekd⟩ : ∃ kd, kd = ks[i] := ⟨_, rfl⟩
      rw [← ekd] at hkd
      have hkm : kd ∈ ks := List.mem_of_getElem? hkd
      obtain ⟨pk, tk, rfl, hpk, htk⟩ := hN.k i x _ hx hkd
      have f2 := (hN.o kd hkm).f1
      have hlen7 := pv_len hI7.p
      have hi3 : i * 5 ^ (q.2 - 1) ≤ 3 * 5 ^ (q.2 - 1) := Nat.mul_le_mul_right _ (by omega)
      have hpl := pot_len (ps'.drop (a + 1))
      rw [List.length_drop] at hpl
      have hpk2 := sqT_tupX (tupX_same s7) hpk
      have htk2 := sqT_tupX (tupX_same s7) htk
      have hpo7 := sqT_tupX x67 hpo
      have hto7 := sqT_tupX x67 hto2
      refine ⟨_, rfl, pk, _, 0, .str kd.tag, rfl, rfl, hpk2, atI_nat (j := 0) rfl, _, rfl, _, rfl, po, _, 1, .int own.fee, rfl, rfl, hpo7, atI_nat (j := 1) rfl, _, _, rfl, rfl, by show 2 ≤ _; omega, fun pp hpp => ?_⟩
      have s8 := same_upd hpp (o := .tup [V.str kd.tag, V.int ((q.2 : Nat) - own.fee)])
      have x8 := tupX_same s8
      have npp : pp ≠ l0 := fresh_ne hI7.l hpp
      have skip : ∀ u6' u7', ∃ (vs' : List V) (ps' : List (Str × Nat)) (u6 u7 : Option V), [some (V.ref net), some (V.int load), some (V.ref l0), some (V.int ((a + 1 : Nat) : Int)), some (V.ref po), some (V.int (q.2 : Nat)), u6', u7'] = [some (V.ref net), some (V.int load), some (V.ref l0), some (V.int ((a + 1 : Nat) : Int)), some (V.ref po), some (V.int (q.2 : Nat)), u6, u7] ∧ PrI K ks l0 (upd H7 pp (.tup [V.str kd.tag, V.int ((q.2 : Nat) - own.fee)])) vs' ps' ∧ Same H (upd H7 pp (.tup [V.str kd.tag, V.int ((q.2 : Nat) - own.fee)])) ∧ TupX H6 (upd H7 pp (.tup [V.str kd.tag, V.int ((q.2 : Nat) - own.fee)])) ∧ a + 1 ≤ ps'.length ∧ pot (ps'.drop (a + 1)) ≤ pot (ps.drop (a + 1)) + (i + 1) * 5 ^ (q.2 - 1) := fun u6' u7' =>
        ⟨vs', ps', u6', u7', rfl, ⟨s8 _ _ hI7.l, pv_x x8 hI7.p, hI7.o⟩, s7.trans s8, x67.trans x8, ha7, by rw [Nat.add_mul]; omega⟩
      refine ⟨_, rfl, pk, _, 0, .str kd.tag, rfl, rfl, sqT_tupX x8 hpk2, atI_nat (j := 0) rfl, _, rfl, po, _, 3, .ref to, rfl, rfl, sqT_tupX x8 hpo7, atI_nat (j := 3) rfl, to, vS own.tb, rfl, .inr (sqT_tupX x8 hto7), rfl, flat_vS own.tb, _, rfl, ite2 (fun _ => ?_) (fun _ => skip _ _)⟩
      refine ⟨_, rfl, pk, _, 2, .bl kd.has, rfl, rfl, sqT_tupX x8 hpk2, atI_nat (j := 2) rfl, _, rfl, ite2 (fun _ => ?_) (fun _ => skip _ _)⟩
      refine ⟨_, rfl, pp, _, 1, .int ((q.2 : Nat) - own.fee), rfl, rfl, .inl (.inl upd_same), atI_nat (j := 1) rfl, _, rfl, pk, _, 1, .int kd.fee, rfl, rfl, sqT_tupX x8 hpk2, atI_nat (j := 1) rfl, _, _, rfl, rfl, _, rfl, ite2 (fun hge => ?_) (fun _ => skip _ _)⟩
      have hge : kd.fee ≤ ((q.2 : Nat) : Int) - own.fee := of_decide_eq_true hge
      obtain ⟨k, hk⟩ : ∃ k : Nat, ((q.2 : Nat) : Int) - own.fee = (k : Nat) := ⟨(((q.2 : Nat) : Int) - own.fee).toNat, by omega⟩
      have hsq : SqT K (upd H7 pp (.tup [V.str kd.tag, V.int ((q.2 : Nat) - own.fee)])) pp [.str kd.tag, .int (k : Nat)] := by
        rw [← hk]
        exact .inl (.inl upd_same)
      have hsok : ∀ z ∈ ps', sok z.1 := fun z hz => by
        obtain ⟨⟨kz, hkz, ez⟩, _⟩ := hI7.o z hz
        rw [← ez]
        exact sok_w (hN.o kz hkz).tg
      refine ⟨_, rfl, _, rfl, pvD (kd.tag, k), ps'.map pvD, .tup hsq (.cons (.str _) (.cons (.int _) .nil)), .lst (SqL.of (s8 _ _ hI7.l)) (pv_dp (pv_x x8 hI7.p)), shaped_pv (sok_w (hN.o kd hkm).tg), shaped_pvs hsok, _, rfl, ite2 (fun _ => ?_) (fun _ => skip _ _)⟩
      refine ⟨_, rfl, .inl ⟨rfl, _, SqL.of (s8 _ _ hI7.l)⟩, _, rfl, l0, vs', _, rfl, rfl, s8 _ _ hI7.l, by omega, vs' ++ [.ref pp], ps' ++ [(kd.tag, k)], _, _, rfl, ⟨upd_same, ?_, fun z hz => ?_⟩, ?_, ?_, ?_, ?_⟩
      · exact pv_x (tupX_lst (s8 _ _ hI7.l)) (pv_snoc hsq (pv_x x8 hI7.p))
      · rcases List.mem_append.mp hz with hz | hz
        · exact hI7.o z hz
        · rw [List.mem_singleton.mp hz]
          exact ⟨⟨kd, hkm, rfl⟩, by show 1 ≤ k; omega, by show k ≤ 5; omega⟩
      · intro b o hb
        have nb : b ≠ l0 := fun e => by rw [e, hl0] at hb; cases hb
        rw [upd_ne nb]
        exact s8 _ _ (s7 _ _ hb)
      · exact (x67.trans x8).trans (tupX_lst (s8 _ _ hI7.l))
      · rw [List.length_append]
        omega
      · have hk1 : k ≤ q.2 - 1 := by omega
        have h5 := (pot_step (m := q.2) hm1 hk1).1
        rw [drop_snoc _ ha7, pot_snoc, Nat.add_mul]
        show pot (ps'.drop (a + 1)) + 5 ^ k ≤ _
        omega
    · obtain ⟨vs', ps', u6, u7, rfl, hI7, s7, x67, ha7, hp7⟩ := hP
      have n4 := hN.n4
      have h4 : vs0.length * 5 ^ (q.2 - 1) ≤ 4 * 5 ^ (q.2 - 1) := Nat.mul_le_mul_right _ n4
      exact ⟨vs', ps', _, _, _, _, rfl, hI7, s7, ha7, by omega⟩
  · have hb2 := pot_len (ps.drop a)
    rw [List.length_drop] at hb2
    exact ⟨_, rfl, hQ _ _ ⟨⟨l0, vs, rfl, hI.l, by omega⟩, s5⟩⟩
end
end Fl

-- KD10
/-! the start of a log -/
namespace Fl
open PySem PySem.Spec PyProof.Rows L2 TL RZ
theorem hu61_of {k : Nat} {A : Around} (r : Room k A) : A.units + 61 < cLine := by have := r.un; omega
abbrev abcdS : Str := "abcd"
def ixA (z : Str) : Nat := (Builtin.Str.occurrences abcdS z 0 abcdS.length 1).headD 0
theorem ixA_use {z : Str} (h : z ∈ abcd4) : ixA z < 4 ∧ ∃ rest, Builtin.Str.occurrences abcdS z 0 abcdS.length 1 = ixA z :: rest := by
  have key : ∀ z ∈ abcd4, ixA z < 4 ∧ Builtin.Str.occurrences abcdS z 0 abcdS.length 1 = ixA z :: (Builtin.Str.occurrences abcdS z 0 abcdS.length 1).tail := by decide +kernel
  exact ⟨(key z h).1, _, (key z h).2⟩
abbrev kdD (k : Kd) : PyData := .tuple [.str k.tag, .int k.fee, .bool k.has, .tuple (k.tb.map .str)]
theorem alike_strs : ∀ xs ys : List Str, PySem.W.alikeAll (xs.map .str) (ys.map .str) = true
  | [], _ => by simp [PySem.W.alikeAll]
  | _ :: _, [] => by simp [PySem.W.alikeAll]
  | x :: xs, y :: ys => by
    rw [List.map_cons, List.map_cons, PySem.W.alikeAll, alike_strs xs ys]
    simp [PySem.W.alike]
theorem alike_kd (k l : Kd) : PySem.W.alike (kdD k) (kdD l) = true := by
  simp [PySem.W.alike, PySem.W.alikeAll, alike_strs]
theorem depth_strs : ∀ ss : List Str, PyData.depthAll (ss.map .str) = 0
  | [] => by simp [PyData.depthAll]
  | x :: r => by
    rw [List.map_cons, PyData.depthAll, depth_strs r]
    simp [PyData.depth]
theorem depth_kd (k : Kd) : (kdD k).depth ≤ 50 := by
  simp [PyData.depth, PyData.depthAll, depth_strs]
/-- kinds as they are made -/
def KnsV (K : PySem.W.Frag) (H : Hp) (ps : List (V × Kd)) : Prop := ∀ q ∈ ps, KnV K H q.1 q.2 ∧ KnOk q.2
section
variable {K : PySem.W.Frag} {H H' : Hp}
theorem kns_x (x : TupX H H') {ps : List (V × Kd)} (h : KnsV K H ps) : KnsV K H' ps := fun q hq => ⟨knv_same x (h q hq).1, (h q hq).2⟩
theorem kns_dp : ∀ {ps : List (V × Kd)}, KnsV K H ps → DpAll K H (ps.map (·.1)) (ps.map fun q => kdD q.2)
  | [], _ => .nil
  | q :: r, h => by
    obtain ⟨p, t, e, h1, h2⟩ := (h q List.mem_cons_self).1
    refine .cons ?_ (kns_dp fun x hx => h x (List.mem_cons_of_mem _ hx))
    show Dp K H q.1 (kdD q.2)
    rw [e]
    exact .tup h1 (.cons (.str _) (.cons (.int _) (.cons (.bl _) (.cons (.tup h2 (dp_texts _)) .nil))))
theorem netv_of {net qa : Addr} {ps : List (V × Kd)} {ask : Str} (h1 : SqT K H net [.ref qa, .str ask]) (h2 : SqT K H qa (ps.map (·.1))) (h : KnsV K H ps) (ha : ∃ q ∈ ps, q.2.tag = ask) (n1 : 1 ≤ ps.length) (n4 : ps.length ≤ 4) : NetV K H net (ps.map (·.1)) (ps.map (·.2)) ask := by
  refine ⟨⟨qa, h1, h2⟩, by rw [List.length_map, List.length_map], fun i v kd e1 e2 => ?_, fun kd hk => ?_, ?_, by rw [List.length_map]; exact n1, by rw [List.length_map]; exact n4⟩
  · rw [List.getElem?_map] at e1 e2
    cases e : ps[i]? with
    | none => rw [e] at e1; cases e1
    | some q =>
      rw [e] at e1 e2
      rw [← Option.some.inj e1, ← Option.some.inj e2]
      exact (h q (List.mem_of_getElem? e)).1
  · obtain ⟨q, hq, rfl⟩ := List.mem_map.mp hk
    exact (h q hq).2
  · obtain ⟨q, hq, e⟩ := ha
    exact ⟨q.2, List.mem_map_of_mem hq, e⟩
end
structure StV (K : PySem.W.Frag) (H : Hp) (r : V) (vs : List V) (ks : List Kd) (ask : Str) (ns : List Int) (load : Int) (g : Str) (net : Addr) : Prop where
  r : ∃ p c, r = .ref p ∧ SqT K H p [.ref net, .ref c, .int load, .str g] ∧ SqT K H c (ns.map V.int)
  n : NetV K H net vs ks ask
  l : ns.length ≤ 4
  b : ∀ i ∈ ns, 1 ≤ i ∧ i ≤ 3
  l1 : -10 ≤ load
  l2 : load ≤ 5
  g : g = "on" ∨ g = "off"
abbrev spStart (K : PySem.W.Frag) : Sp := Pr (fun d : Addr => [.ref d, .int 3]) (fun d H => Feed H d) (fun d H r H' => (∃ vs ks ask ns load g net, StV K H' r vs ks ask ns load g net) ∧ Fd d H H')
/-- one index into the names -/
theorem nm_at {ws : List Str} {z : Str} (hz : z ∈ abcd4) (hn : ws.length = 4) : ∃ rest, Builtin.Str.occurrences abcdS z 0 abcdS.length 1 = ixA z :: rest ∧ atI (vS ws) ((ixA z : Nat) : Int) = some (V.str (ws.getD (ixA z) Str.empty)) := by
  obtain ⟨h4, rest, e⟩ := ixA_use hz
  have hk : ixA z < ws.length := by omega
  refine ⟨rest, e, atI_nat ?_⟩
  rw [List.getElem?_map, List.getD_eq_getElem?_getD, List.getElem?_eq_getElem hk] <;> rfl
theorem getD_all {W : Str → Prop} {ws : List Str} {i : Nat} (h : ∀ y ∈ ws, W y) (hi : i < ws.length) : W (ws.getD i Str.empty) := by
  rw [List.getD_eq_getElem?_getD, List.getElem?_eq_getElem hi]
  exact h _ (List.getElem_mem hi)
theorem scI_fd {d : Addr} {H H' : Hp} {v : V} (x : Fd d H H') (h : ScI H v) : ScI H' v := by
  obtain ⟨p, t, s, f, b, ts, e, h1, h2, r⟩ := h
  exact ⟨p, t, s, f, b, ts, e, x.lst h1, x.lst h2, r⟩
section
variable {P : Program} {w : World} {K : PySem.W.Frag} {mg : Str → Option Value} {base : Heap}
theorem ok_law_start (T : Tx K mg) : OkF P w K mg base CX0 4 "_law_start" ["_law_feed_here", "_law_most"] (spStart K) := by
  have sc : FnScope ["_law_feed_here", "_law_most", "_law_names_here", "_law_scene_here", "_law_kinds", "_law_counts", "_law_sign", "_law_fee", "_law_has", "_law_table", "_law_net", "_law_kind_here", "_law_load", "_law_lap", "_law_one", "_law_many"] ["_law_feed_here", "_law_most"] (defScope (topS 49)) := ⟨rfl, rfl, rfl, by decide +kernel, rfl, by decide +kernel, by decide +kernel⟩
  refine okF T 33 49 rfl sc (fun _ _ _ _ _ _ us hl => match us, hl with | [_, _], _ => rfl) (fun vs H Q E ⟨_, e, _⟩ => by rw [e] <;> rfl) fun cdv A outer s H vs Q E hr ⟨d, e, hF, hQ⟩ => ?_
  have e : vs = [V.ref d, V.int 3] := e
  subst e
  have hF : Feed H d := hF
  have hS : 200000 ≤ sizeLine := by rw [sizeLine_eq]; decide
  have hu61 := hu61_of hr
  refine ⟨_, PSs.nox (pss_cons (ps_asg (pe_tup (pa_cons (pe_fn (ok_law_names T) (hr.mono (by decide)) pass0 (pa_cons (pv 0) pa_nil)) (pa_cons (pe_fn (ok_law_scene T) (hr.mono (by decide)) pass0 (pa_cons (pv 0) pa_nil)) pa_nil))) (pg_tup rfl (pgs_cons (pg_name (i := 2) sc.nd rfl (.inr rfl) (hf := .inl rfl)) (pgs_cons (pg_name (i := 3) sc.nd rfl (.inl rfl) (hf := .inr rfl)) pgs_nil))))
 (pss_cons (ps_par (i := 4) (j := 5) (by rfl) sc.nd rfl rfl (by decide) rfl rfl (pa_cons (pe_lst pa_nil) (pa_cons (pe_lst pa_nil) pa_nil)) (by rfl))
 (pss_cons (ps_for PassesOwn.never rfl (pi_list (pv 3)) (pg_unl rfl (pgs_cons (pg_name (i := 6) sc.nd rfl (.inl rfl) (hf := .inr rfl)) (pgs_cons (pg_name (i := 7) sc.nd rfl (.inl rfl) (hf := .inr rfl)) (pgs_cons (pg_name (i := 8) sc.nd rfl (.inl rfl) (hf := .inr rfl)) (pgs_cons (pg_name (i := 9) sc.nd rfl (.inl rfl) (hf := .inr rfl)) pgs_nil))))) (pss_cons (ps_set (i := 9) sc.nd rfl (Or.inl rfl) (pe_callTy call_tuple_of rfl (T.bl (x := "tuple")) (by decide +kernel) (pa_cons (pe_callB cr_sortedS rfl (T.bl (x := "sorted")) (by decide +kernel) (pa_cons (pe_lc (own := [("_law_one", 14)]) (g := gName 14) (by rfl) sc.nd (pi_list (pv 9)) (blkOk_by (own := [("_law_one", 14)]) (N := ["_law_feed_here", "_law_most", "_law_names_here", "_law_scene_here", "_law_kinds", "_law_counts", "_law_sign", "_law_fee", "_law_has", "_law_table", "_law_net", "_law_kind_here", "_law_load", "_law_lap", "_law_one", "_law_many"]) (sc := (defScope (topS 49))) (by decide +kernel)) (fun _ _ _ _ _ => (pg_name (i := 14) sc.nd rfl (.inl rfl) (hf := .inr rfl))) (fun _ _ _ _ _ => pts_nil) (fun _ _ _ _ _ => (pe_ix (ix_listK (K := K) rfl) (pv 2) (pe_m1 PySem.F.slot_str_index PySem.F.type_str_index mt_sindex pe_str (pv 14)) (fun _ _ => rfl)))) pa_nil)) pa_nil)))
 (pss_one (ps_expr (pe_bm PySem.F.plainAttrs_list PySem.F.slot_list_append PySem.F.type_list_append mt_append (pv 4) (pa_cons (pe_tup (pa_cons (pe_ix ix_list (pv 2) (pe_m1 PySem.F.slot_str_index PySem.F.type_str_index mt_sindex pe_str (pv 6)) (fun _ _ => rfl)) (pa_cons (pv 7) (pa_cons (pv 8) (pa_cons (pv 9) pa_nil))))) pa_nil))))))
 (pss_cons (ps_set (i := 10) sc.nd rfl (Or.inl rfl) (pe_tup (pa_cons (pe_callTy call_tuple_of rfl (T.bl (x := "tuple")) (by decide +kernel) (pa_cons (pe_callB (cr_sortD hu61) rfl (T.bl (x := "sorted")) (by decide +kernel) (pa_cons (pv 4) pa_nil)) pa_nil)) (pa_cons (pe_ix ix_list (pv 2) (pe_m1 PySem.F.slot_str_index PySem.F.type_str_index mt_sindex pe_str (pe_ix ix_list (pe_ix ix_list (pv 3) pe_int (fun _ _ => rfl)) pe_int (fun _ _ => rfl))) (fun _ _ => rfl)) pa_nil))))
 (pss_cons (ps_for PassesOwn.never rfl (pi_tup (pe_ix ix_tup (pv 10) pe_int (fun _ _ => rfl))) (pg_name (i := 11) sc.nd rfl (.inl rfl) (hf := .inr rfl)) (pss_one (ps_expr (pe_bm PySem.F.plainAttrs_list PySem.F.slot_list_append PySem.F.type_list_append mt_append (pv 5) (pa_cons (pe_op op_add pe_int (pe_fn (ok_law_draw T) (hr.mono (by decide)) pass0 (pa_cons (pv 0) (pa_cons (pv 1) pa_nil)))) pa_nil)))))
 (pss_cons (ps_if (pt_cmpR op_gt (pe_callB (cr_sum rfl) rfl (T.bl (x := "sum")) (by decide +kernel) (pa_cons (pv 5) pa_nil)) pe_int (nomark _)) (pss_one (ps_setLc (i := 5) (own := [("_law_many", 15)]) (g := gName 15) (by rfl) sc.nd rfl rfl (sw_true rfl rfl rfl (by decide +kernel)) (pi_list (pv 5)) (blkOk_by (own := [("_law_many", 15)]) (N := ["_law_feed_here", "_law_most", "_law_names_here", "_law_scene_here", "_law_kinds", "_law_counts", "_law_sign", "_law_fee", "_law_has", "_law_table", "_law_net", "_law_kind_here", "_law_load", "_law_lap", "_law_one", "_law_many"]) (sc := (defScope (topS 49))) (by decide +kernel)) (fun _ _ _ _ _ => (pg_name (i := 15) sc.nd rfl (.inl rfl) (hf := .inr rfl))) (fun _ _ _ _ _ => pts_nil) (fun _ _ _ _ _ => (pe_callB (call_min2 rfl) rfl (T.bl (x := "min")) (by decide +kernel) (pa_cons (pv 15) (pa_cons pe_int pa_nil)))))) pss_nil)
 (pss_cons (ps_set (i := 12) sc.nd rfl (Or.inl rfl) (pe_fn (ok_law_draw T) (hr.mono (by decide)) pass0 (pa_cons (pv 0) (pa_cons pe_int pa_nil))))
 (pss_cons (ps_for PassesOwn.never rfl (pi_range1 rfl (T.bl (x := "range")) (pa_cons pe_int pa_nil)) (pg_name (i := 13) sc.nd rfl (.inl rfl) (hf := .inr rfl)) (pss_one (ps_set (i := 12) sc.nd rfl (Or.inl rfl) (pe_ifExp (pt_cmpR op_gt (pe_callB call_len rfl (T.bl (x := "len")) (by decide +kernel) (pa_cons (pe_fn (ok_law_pairs T) (hr.mono (by decide)) pass0 (pa_cons (pv 10) (pa_cons (pv 12) pa_nil))) pa_nil)) pe_int (nomark _)) (pe_op op_sub (pv 12) pe_int) (pv 12)))))
 (pss_one (ps_ret (pe_tup (pa_cons (pv 10) (pa_cons (pe_callTy call_tuple_of rfl (T.bl (x := "tuple")) (by decide +kernel) (pa_cons (pv 5) pa_nil)) (pa_cons (pv 12) (pa_cons (pe_fn (ok_law_any T) (hr.mono (by decide)) pass0 (pa_cons (pv 0) (pa_cons (pe_lst (pa_cons pe_str (pa_cons pe_str (pa_cons pe_str pa_nil)))) pa_nil))) pa_nil))))))))))))))), ?_⟩
  refine ⟨_, rfl, d, rfl, hF, fun r1 H1 q1 => ?_⟩
  obtain ⟨⟨nl, ws, rfl, hnl, hn4, hnm⟩, x1⟩ := q1
  have x1 : Fd d H H1 := x1
  refine ⟨_, rfl, d, rfl, x1.feed hF, fun r2 H2 q2 => ?_⟩
  obtain ⟨⟨sl, ss, rfl, hsl, hs1, hs4, hsi⟩, x2⟩ := q2
  have x2 : Fd d H1 H2 := x2
  have hnl2 := x2.lst hnl
  refine ⟨by show 2 ≤ _; omega, fun p0 hp0 => ⟨p0, _, rfl, .inl (.inl upd_same), rfl, _, _, rfl, _, _, rfl, rfl, ?_⟩⟩
  have y3 : Fd d H (upd H2 p0 (.tup [V.ref nl, V.ref sl])) := (x1.trans x2).trans (Fd.same (same_upd hp0))
  have hnl3 := same_upd hp0 (o := .tup [V.ref nl, V.ref sl]) _ _ hnl2
  have hsl3 := same_upd hp0 (o := .tup [V.ref nl, V.ref sl]) _ _ hsl
  have hsi3 : ∀ v ∈ ss, ScI (upd H2 p0 (.tup [V.ref nl, V.ref sl])) v := fun v hv => scI_fd (d := d) (Fd.same (same_upd hp0)) (hsi v hv)
  obtain ⟨H3, hH3⟩ : ∃ H3, H3 = upd H2 p0 (.tup [V.ref nl, V.ref sl]) := ⟨_, rfl⟩
  rw [← hH3] at y3 hnl3 hsl3 hsi3 ⊢
  obtain ⟨pz, tz, sz, fz, bz, tsz, ez, hz1, hz2, hsz, _⟩ := hsi3 _ (List.getElem_mem (show 0 < ss.length by omega))
  have hss0 : ss[0]? = some (V.ref pz) := by rw [List.getElem?_eq_getElem (show 0 < ss.length by omega), ez]
  obtain ⟨tg, htg⟩ : ∃ tg, tg = ws.getD (ixA sz) Str.empty := ⟨_, rfl⟩
  refine ⟨Nat.zero_le _, fun l1 hl1 => ⟨Nat.zero_le _, fun l2 hl2 => ⟨_, _, rfl, ?_⟩⟩⟩
  have n21 : l2 ≠ l1 := fresh_ne upd_same hl2
  have hb2 : H3 l2 = none := by rw [upd_ne n21] at hl2; exact hl2
  have s4 : Same H3 (upd (upd H3 l1 (.lst [])) l2 (.lst [])) := (same_upd hl1).trans (same_upd hl2)
  refine ⟨_, rfl, sl, rfl, ⟨_, SqL.of (s4 _ _ hsl3)⟩, ?_⟩
  refine for_it (walk_list (K := K) (a := sl) (xs := ss)) (fun i σ' H' => (∃ u6 u7 u8 u9, σ' = [some (V.ref d), some (V.int 3), some (V.ref nl), some (V.ref sl), some (V.ref l1), some (V.ref l2), u6, u7, u8, u9, none, none, none, none, none, none]) ∧ ∃ ps : List (V × Kd), H' l1 = some (.lst (ps.map (·.1))) ∧ H' l2 = some (.lst []) ∧ ps.length = i ∧ KnsV K H' ps ∧ (1 ≤ i → ∃ q ∈ ps, q.2.tag = tg) ∧ Same H3 H')
    ⟨⟨_, _, _, _, rfl⟩, [], by rw [upd_ne (Ne.symm n21)]; exact upd_same, upd_same, rfl, fun _ h => (nomatch h), fun h => absurd h (by decide), s4⟩ (fun i σ' H' _ hP => ?_) (fun i x σ' H5' H5 hi hP hy => ?_) (fun σ' H' hP => ?_)
  · obtain ⟨_, _, _, _, _, _, _, s⟩ := hP
    exact SqL.of (s _ _ hsl3)
  · obtain ⟨⟨u6, u7, u8, u9, rfl⟩, ps, g1, g2, hn, hk, hf, s5⟩ := hP
    obtain ⟨rfl, hx⟩ := hy
    obtain ⟨q, t, s, f, b, ts, rfl, hq, ht, hs, hts, f1, f3, tn⟩ := hsi3 x (List.mem_of_getElem? hx)
    have hq5 := s5 _ _ hq
    have ht5 := s5 _ _ ht
    have hnl5 := s5 _ _ hnl3
    refine ⟨q, _, rfl, SqL.of hq5, rfl, _, _, rfl, _, _, rfl, _, _, rfl, _, _, rfl, rfl, ?_⟩
    have ndl : ∀ {b : Addr} {o : HO} {H' : Hp} {c : Addr}, H' b = some o → H' c = none → b ≠ c := fun h n => ne_of_none h n
    have hts_at : ∀ x, x ∈ vS ts → ∃ z, x = V.str z ∧ z ∈ abcd4 := fun x hx => by
      obtain ⟨z, hz, e⟩ := List.mem_map.mp hx
      exact ⟨z, e.symm, hts z hz⟩
    refine ⟨_, rfl, t, rfl, ⟨_, SqL.of ht5⟩, fun D hD => ?_⟩
    refine lcw (walk_list (K := K) (a := t) (xs := vS ts)) fram_same hD (by rw [List.length_map]; omega) (fun H' s' => SqL.of (s' _ _ ht5)) (fun i acc _ => EX nmOk i acc) (fun _ _ _ _ _ h => h) ⟨[], rfl, fun _ h => (nomatch h), rfl⟩ (fun i x acc H2 H3 hi r y hI hacc Zk Zs hk hz => ?_) (fun H6 acc r hacc hI => ?_)
    · obtain ⟨rfl, hx⟩ := y
      obtain ⟨z, rfl, hz4⟩ := hts_at x (List.mem_of_getElem? hx)
      obtain ⟨rest, hoc, hat⟩ := nm_at hz4 hn4
      refine ⟨rfl, yes_turn ⟨_, rfl, ⟨_, rfl⟩, _, rfl, abcdS, z, _, rest, rfl, rfl, hoc, nl, vS ws, _, _, rfl, rfl, SqL.of (r _ _ hnl5), hat, hk _ _ (Same.refl _) ?_⟩⟩
      obtain ⟨us, rfl, hu, hl⟩ := hI
      refine ⟨us ++ [ws.getD (ixA z) Str.empty], vS_app us [_], fun y hy => ?_, by rw [List.length_append, hl] <;> rfl⟩
      rcases List.mem_append.mp hy with hy | hy
      · exact hu y hy
      · rw [List.mem_singleton.mp hy]
        exact getD_all hnm (by rw [hn4]; exact (ixA_use hz4).1)
    · obtain ⟨us, rfl, hu, hl⟩ := hI
      rw [List.length_map] at hl
      refine ⟨D, us, rfl, SqL.of hacc, by omega, fun zs p2 hperm _ hp2 => ⟨p2, _, rfl, .inl ⟨SqL.of upd_same, fun tt htt => ?_⟩⟩⟩
      have s7 := (s5.trans r).trans ((same_upd hp2 (o := .lst (vS zs))).trans (same_upd htt (o := .tup (vS zs))))
      have s57 := r.trans ((same_upd hp2 (o := .lst (vS zs))).trans (same_upd htt (o := .tup (vS zs))))
      have hnl7 := s7 _ _ hnl3
      have g17 := s57 _ _ g1
      have g27 := s57 _ _ g2
      have httat : SqT K (upd (upd H6 p2 (.lst (vS zs))) tt (.tup (vS zs))) tt (vS zs) := .inl (.inl upd_same)
      obtain ⟨H7, hH7⟩ : ∃ H7, H7 = upd (upd H6 p2 (.lst (vS zs))) tt (.tup (vS zs)) := ⟨_, rfl⟩
      rw [← hH7] at s7 s57 hnl7 g17 g27 httat ⊢
      have k7 := kns_x (tupX_same s57) hk
      refine ⟨_, rfl, .inl ⟨rfl, _, SqL.of g17⟩, _, rfl, ⟨_, rfl⟩, _, rfl, ?_⟩
      obtain ⟨rest, hoc, hat⟩ := nm_at hs hn4
      refine ⟨abcdS, s, _, rest, rfl, rfl, hoc, nl, vS ws, _, _, rfl, rfl, SqL.of hnl7, hat, ?_⟩
      refine ⟨_, rfl, _, rfl, _, rfl, by show 4 ≤ _; omega, fun pk hpk => ?_⟩
      have s8 := same_upd hpk (o := .tup [V.str (ws.getD (ixA s) Str.empty), V.int f, V.bl b, V.ref tt])
      have npk : pk ≠ l1 := fresh_ne g17 hpk
      have gk : KnV K (upd H7 pk (.tup [V.str (ws.getD (ixA s) Str.empty), V.int f, V.bl b, V.ref tt])) (.ref pk) ⟨ws.getD (ixA s) Str.empty, f, b, zs⟩ := ⟨pk, tt, rfl, .inl (.inl upd_same), sqT_tupX (tupX_same s8) httat⟩
      have hz_mem : ∀ y ∈ zs, nmOk y := fun y hy => hu y (hperm.mem_iff.mp hy)
      have hzn : zs.length ≤ 5 := by rw [hperm.length_eq]; omega
      have hnmS := getD_all hnm (i := ixA s) (by rw [hn4]; exact (ixA_use hs).1)
      refine ⟨l1, _, _, rfl, rfl, s8 _ _ g17, by rw [List.length_map]; omega, ⟨_, _, _, _, rfl⟩, ps ++ [(.ref pk, ⟨ws.getD (ixA s) Str.empty, f, b, zs⟩)], ?_, ?_, ?_, fun q' hq' => ?_, fun _ => ?_, fun b' o hb => ?_⟩
      · rw [upd_same, List.map_append]
        rfl
      · rw [upd_ne n21]
        exact s8 _ _ g27
      · rw [List.length_append, hn] <;> rfl
      · rcases List.mem_append.mp hq' with hq' | hq'
        · exact ⟨knv_same ((tupX_same s8).trans (tupX_lst (s8 _ _ g17))) (k7 q' hq').1, (k7 q' hq').2⟩
        · rw [List.mem_singleton.mp hq']
          exact ⟨knv_same (tupX_lst (s8 _ _ g17)) gk, hnmS.w, hnmS.1, f1, f3, hzn, fun y hy => ⟨(hz_mem y hy).w, (hz_mem y hy).1⟩⟩
      · by_cases h0 : 1 ≤ i
        · obtain ⟨q', h1, h2⟩ := hf h0
          exact ⟨q', List.mem_append_left _ h1, h2⟩
        · refine ⟨_, List.mem_append_right _ (List.mem_singleton.mpr rfl), ?_⟩
          have h00 : i = 0 := by omega
          rw [h00, hss0] at hx
          have e1 : pz = q := V.ref.inj (Option.some.inj hx)
          rw [← e1, hz1] at hq
          have e2 := V.str.inj (List.cons.inj (HO.lst.inj (Option.some.inj hq))).1
          show ws.getD (ixA s) Str.empty = tg
          rw [htg, e2]
      · have nb : b' ≠ l1 := fun e => by rw [e, hl1] at hb; cases hb
        rw [upd_ne nb]
        exact s8 _ _ (s7 _ _ hb)
  · obtain ⟨⟨u6, u7, u8, u9, rfl⟩, ps, g1, g2, hn, hk, hf, s5⟩ := hP
    obtain ⟨q0, hq0, ht0⟩ := hf (by omega)
    have hnl5 := s5 _ _ hnl3
    have hsl5 := s5 _ _ hsl3
    have hpz5 := s5 _ _ hz1
    obtain ⟨rest, hoc, hat⟩ := nm_at hsz hn4
    rw [← htg] at hat
    refine ⟨_, rfl, V × Kd, l1, ps, (·.1), (fun q => kdD q.2), rfl, SqL.of g1, kns_dp hk, PySem.W.AllAlike.of (fun _ _ => alike_kd _ _), PySem.W.Sortable.tuples (fun _ => ⟨_, _, rfl⟩), fun _ _ => depth_kd _, fun cs p1 hperm hp1 => ⟨p1, _, rfl, .inl ⟨SqL.of upd_same, fun qa hqa => ?_⟩⟩⟩
    have s6 := (same_upd hp1 (o := .lst (cs.map (·.1)))).trans (same_upd hqa (o := .tup (cs.map (·.1))))
    have hqat : SqT K (upd (upd H' p1 (.lst (cs.map (·.1)))) qa (.tup (cs.map (·.1)))) qa (cs.map (·.1)) := .inl (.inl upd_same)
    obtain ⟨H6, hH6⟩ : ∃ H6, H6 = upd (upd H' p1 (.lst (cs.map (·.1)))) qa (.tup (cs.map (·.1))) := ⟨_, rfl⟩
    rw [← hH6] at s6 hqat ⊢
    have k6 : KnsV K H6 cs := kns_x (tupX_same s6) fun q hq => hk q (hperm.mem_iff.mp hq)
    have hcl : cs.length = ss.length := by rw [hperm.length_eq, hn]
    refine ⟨_, rfl, ⟨_, rfl⟩, _, rfl, sl, ss, 0, .ref pz, rfl, rfl, SqL.of (s6 _ _ hsl5), atI_nat (j := 0) hss0, pz, _, 0, .str sz, rfl, rfl, SqL.of (s6 _ _ hpz5), atI_nat (j := 0) rfl, abcdS, sz, _, rest, rfl, rfl, hoc, nl, vS ws, _, _, rfl, rfl, SqL.of (s6 _ _ hnl5), hat, by show 2 ≤ _; omega, fun net hnet => ?_⟩
    have s7 := same_upd hnet (o := .tup [V.ref qa, V.str tg])
    have hnet7 : SqT K (upd H6 net (.tup [V.ref qa, V.str tg])) net [.ref qa, .str tg] := .inl (.inl upd_same)
    have hN7 : NetV K (upd H6 net (.tup [V.ref qa, V.str tg])) net (cs.map (·.1)) (cs.map (·.2)) tg := netv_of hnet7 (sqT_tupX (tupX_same s7) hqat) (kns_x (tupX_same s7) k6) ⟨q0, hperm.mem_iff.mpr hq0, ht0⟩ (by omega) (by omega)
    have y7 := y3.trans (Fd.same (d := d) (s5.trans (s6.trans s7)))
    have z7 : Fd d H3 (upd H6 net (.tup [V.ref qa, V.str tg])) := Fd.same (s5.trans (s6.trans s7))
    have g27 := s7 _ _ (s6 _ _ g2)
    have hqa7 := sqT_tupX (tupX_same s7) hqat
    obtain ⟨H7, hH7⟩ : ∃ H7, H7 = upd H6 net (.tup [V.ref qa, V.str tg]) := ⟨_, rfl⟩
    rw [← hH7] at s7 hnet7 hN7 y7 z7 g27 hqa7 ⊢
    clear hk k6 hqat
    dsimp only [gName]
    refine ⟨_, rfl, net, _, 0, .ref qa, rfl, rfl, hnet7, atI_nat (j := 0) rfl, qa, rfl, ⟨_, hqa7⟩, ?_⟩
    refine for_it (walk_tup (K := K) (a := qa) (xs := cs.map (·.1))) (fun i σ' H' => (∃ u11, σ' = [some (V.ref d), some (V.int 3), some (V.ref nl), some (V.ref sl), some (V.ref l1), some (V.ref l2), u6, u7, u8, u9, some (V.ref net), u11, none, none, none, none]) ∧ ∃ ns : List Int, H' l2 = some (.lst (ns.map V.int)) ∧ ns.length = i ∧ (∀ n ∈ ns, 1 ≤ n ∧ n ≤ 3) ∧ Fd d H3 H' ∧ TupX H7 H')
      ⟨⟨_, rfl⟩, [], g27, rfl, fun _ h => (nomatch h), z7, TupX.refl _⟩ (fun i σ' H' _ hP => ?_) (fun i x σ' H8' H8 hi hP hy => ?_) (fun σ' H8 hP => ?_)
    · obtain ⟨_, _, _, _, _, _, x⟩ := hP
      exact sqT_tupX x hqa7
    · obtain ⟨⟨u11, rfl⟩, ns, g8, hn8, hb8, z8, x8⟩ := hP
      obtain ⟨rfl, _⟩ := hy
      refine ⟨_, rfl, .inl ⟨rfl, _, SqL.of g8⟩, _, rfl, _, rfl, (d, 3), rfl, ⟨(y3.trans z8).feed hF, (by decide : 1 ≤ 3), (by decide : 3 ≤ 100000)⟩, fun r9 H9 q9 => ?_⟩
      obtain ⟨⟨k, hk3, rfl⟩, x9⟩ := q9
      have hk3 : k < 3 := hk3
      have x9 : Fd d H8 H9 := x9
      rw [List.length_map] at hi
      refine ⟨_, _, rfl, rfl, l2, _, _, rfl, rfl, x9.lst g8, by rw [List.length_map]; omega, ⟨_, rfl⟩, ns ++ [1 + ((k : Nat) : Int)], ?_, by rw [List.length_append, hn8] <;> rfl, fun n hn9 => ?_, (z8.trans x9).new hb2, (x8.trans x9.tx).trans (tupX_lst (x9.lst g8))⟩
      · rw [upd_same, List.map_append]
        rfl
      · rcases List.mem_append.mp hn9 with hn9 | hn9
        · exact hb8 n hn9
        · rw [List.mem_singleton.mp hn9]
          omega
    · obtain ⟨⟨u11, rfl⟩, ns, g8, hn8, hb8, z8, x8⟩ := hP
      rw [List.length_map] at hn8
      have hnl8 : ns.length ≤ 4 := by omega
      have hN8 := netv_x x8 hN7
      have y8 := y3.trans z8
      -- the sum
      dsimp only
      refine seq_cut (t := tIfS _ _ _) (fun σ' H' => ∃ (lc : Addr) (ms : List Int), σ' = [some (V.ref d), some (V.int 3), some (V.ref nl), some (V.ref sl), some (V.ref l1), some (V.ref lc), u6, u7, u8, u9, some (V.ref net), u11, none, none, none, none] ∧ H' lc = some (.lst (ms.map V.int)) ∧ ms.length ≤ 4 ∧ (∀ n ∈ ms, 1 ≤ n ∧ n ≤ 3) ∧ Same H8 H') (fun nx' hnx => ?_) ?_
      · refine ⟨_, rfl, l2, ns, rfl, SqL.of g8, _, _, rfl, rfl, _, rfl, ite2 (fun _ => ?_) (fun _ => hnx _ _ ⟨l2, ns, rfl, g8, hnl8, hb8, Same.refl _⟩)⟩
        refine ⟨_, rfl, l2, rfl, ⟨_, SqL.of g8⟩, fun D hD => ?_⟩
        refine lcw (walk_list (K := K) (a := l2) (xs := ns.map V.int)) fram_same hD (by rw [List.length_map]; omega) (fun H' s' => SqL.of (s' _ _ g8)) (fun i acc _ => ∃ ms : List Int, acc = ms.map V.int ∧ ms.length = i ∧ ∀ n ∈ ms, 1 ≤ n ∧ n ≤ 3) (fun _ _ _ _ _ h => h) ⟨[], rfl, rfl, fun _ h => (nomatch h)⟩ (fun i x acc H9 H10 hi r y hI hacc Zk Zs hk hz => ?_) (fun H9 acc r hacc hI => ?_)
        · obtain ⟨rfl, hx⟩ := y
          obtain ⟨ms, rfl, hm, hb⟩ := hI
          rw [List.getElem?_map] at hx
          obtain ⟨n, hn, rfl⟩ := Option.map_eq_some_iff.mp hx
          have hbn := hb8 n (List.mem_of_getElem? hn)
          refine ⟨rfl, yes_turn ⟨_, rfl, _, _, rfl, hk _ _ (Same.refl _) ⟨ms ++ [if (2 : Int) < n then 2 else n], by rw [List.map_append] <;> rfl, by rw [List.length_append, hm] <;> rfl, fun m hmm => ?_⟩⟩⟩
          rcases List.mem_append.mp hmm with hmm | hmm
          · exact hb m hmm
          · rw [List.mem_singleton.mp hmm]
            split <;> omega
        · obtain ⟨ms, rfl, hm, hb⟩ := hI
          rw [List.length_map] at hm
          exact hnx _ _ ⟨D, ms, rfl, hacc, by omega, hb, r⟩
      rintro _ H9 ⟨lc, ms, rfl, g9, hm9, hb9, s9⟩
      have y9 := y8.trans (Fd.same (d := d) s9)
      refine asg_draw (d := d) (m := 6) rfl (y9.feed hF) (by decide) (by decide) fun k6 H10 hk6 x10 => ?_
      have y10 := y9.trans x10
      have hN10 := netv_x x10.tx (netv_x (tupX_same s9) hN8)
      have g10 := x10.lst g9
      refine ⟨(4 : Int), rfl, by decide, by decide, ?_⟩
      refine for_it (walk_range (lo := 0) (n := 4)) (fun i σ' H' => ∃ (ld : Int) (u13 : Option V), σ' = [some (V.ref d), some (V.int 3), some (V.ref nl), some (V.ref sl), some (V.ref l1), some (V.ref lc), u6, u7, u8, u9, some (V.ref net), u11, some (V.int ld), u13, none, none] ∧ -((i : Nat) : Int) ≤ ld ∧ ld ≤ 5 ∧ Same H10 H')
        ⟨_, _, rfl, by omega, by omega, Same.refl _⟩ (fun _ _ _ _ _ => trivial) (fun i x σ' H11' H11 hi hP hy => ?_) (fun σ' H11 hP => ?_)
      · obtain ⟨ld, u13, rfl, b1, b2, s11⟩ := hP
        obtain ⟨rfl, rfl⟩ := hy
        refine ⟨_, rfl, _, rfl, (net, ld, cs.map (fun q : V × Kd => q.1), cs.map (fun q : V × Kd => q.2), tg), rfl, ⟨netv_x (tupX_same s11) hN10, by show -10 ≤ ld; omega, b2⟩, fun r H12 q12 => ?_⟩
        obtain ⟨⟨lp, vp, rfl, hlp, hvp⟩, s12⟩ := q12
        have s12 : Same H11 H12 := s12
        refine ⟨_, _, rfl, .inl ⟨_, SqL.of hlp, rfl⟩, _, _, rfl, rfl, _, rfl, ite2 (fun _ => ?_) (fun _ => ?_)⟩
        · exact ⟨_, rfl, _, _, rfl, rfl, ld - 1, _, rfl, by omega, by omega, s11.trans s12⟩
        · exact ⟨_, rfl, ld, _, rfl, by omega, by omega, s11.trans s12⟩
      · obtain ⟨ld, u13, rfl, b1, b2, s11⟩ := hP
        have b1 : -((4 : Nat) : Int) ≤ ld := b1
        have g11 := s11 _ _ g10
        have y11 := y10.trans (Fd.same (d := d) s11)
        have hN11 := netv_x (tupX_same s11) hN10
        refine ⟨_, rfl, _, rfl, lc, _, rfl, .inl ⟨SqL.of g11, fun tc htc => ?_⟩⟩
        have s12 := same_upd htc (o := .tup (ms.map V.int))
        refine ⟨_, rfl, _, rfl, by show 3 ≤ _; omega, fun lo hlo => ?_⟩
        have s13 := same_upd hlo (o := .lst (vS ["off", "off", "on"]))
        have y13 := y11.trans (Fd.same (d := d) (s12.trans s13))
        refine ⟨(d, lo, vS ["off", "off", "on"]), rfl, ⟨y13.feed hF, SqL.of upd_same, (by decide : 1 ≤ 3), (by decide : 3 ≤ 100000)⟩, fun r H14 q14 => ?_⟩
        obtain ⟨hr14, x14⟩ := q14
        have x14 : Fd d _ H14 := x14
        obtain ⟨g, hg, rfl⟩ := List.mem_map.mp hr14
        have hg2 : g = "on" ∨ g = "off" := by
          simp only [List.mem_cons, List.not_mem_nil, or_false] at hg
          rcases hg with rfl | rfl | rfl
          · exact .inr rfl
          · exact .inr rfl
          · exact .inl rfl
        refine ⟨by show 4 ≤ _; omega, fun p hp => ?_⟩
        have s15 := same_upd hp (o := .tup [V.ref net, V.ref tc, V.int ld, V.str g])
        have x15 := (tupX_same (s12.trans s13)).trans (x14.tx.trans (tupX_same s15))
        have htc15 : SqT K (upd H14 p (.tup [V.ref net, V.ref tc, V.int ld, V.str g])) tc (ms.map V.int) := sqT_tupX ((tupX_same s13).trans (x14.tx.trans (tupX_same s15))) (.inl (.inl upd_same))
        exact hQ _ _ ⟨⟨_, _, _, ms, ld, g, net, ⟨p, tc, rfl, .inl (.inl upd_same), htc15⟩, netv_x x15 hN11, hm9, hb9, by omega, b2, hg2⟩, (y13.trans x14).trans (Fd.same s15)⟩
end
end Fl

-- KD11
/-! the lines of a log -/
namespace Fl
open PySem PySem.Spec PyProof.Rows L2 TL RZ
abbrev spWebLines (K : PySem.W.Frag) : Sp := Pr (fun q : Addr × Addr × List V × List Kd × Str => [.ref q.1]) (fun q H => NetV K H q.1 q.2.2.1 q.2.2.2.1 q.2.2.2.2)
  (fun q H r H' => (∃ p l, r = .ref p ∧ H' p = some (.lst l) ∧ EL (lOk 5) 5 l) ∧ Fd q.2.1 H H')
/-- never called -/
abbrev spLine : Sp := Pr (fun v : V => [v]) (fun _ _ => False) (fun _ _ _ _ => False)
abbrev spLines (K : PySem.W.Frag) : Sp := Pr (fun q : V × Addr × Addr × List V × List Kd × Str × List Int × Int × Str × Addr => [q.1, .ref q.2.1]) (fun q H => StV K H q.1 q.2.2.2.1 q.2.2.2.2.1 q.2.2.2.2.2.1 q.2.2.2.2.2.2.1 q.2.2.2.2.2.2.2.1 q.2.2.2.2.2.2.2.2.1 q.2.2.2.2.2.2.2.2.2 ∧ H q.2.1 = some (.lst []))
  (fun q H r H' => (∃ p l, r = .ref p ∧ H' p = some (.lst l) ∧ EL (lOk 5) 6 l) ∧ Fd q.2.2.1 H H')
theorem joinL_memS {S : List Nat} {c : Nat} : ∀ (parts : List (List Nat)), c ∈ joinL S parts → c ∈ S ∨ ∃ p ∈ parts, c ∈ p
  | [], h => by cases h
  | [p], h => .inr ⟨p, List.mem_cons_self, h⟩
  | p :: q :: r, h => by
    have h2 : c ∈ p ++ (S ++ joinL S (q :: r)) := h
    simp only [List.mem_append] at h2
    rcases h2 with h2 | h2 | h2
    · exact .inr ⟨p, List.mem_cons_self, h2⟩
    · exact .inl h2
    · rcases joinL_memS (q :: r) h2 with h3 | ⟨x, hx, hc⟩
      · exact .inl h3
      · exact .inr ⟨x, List.mem_cons_of_mem _ hx, hc⟩
theorem joinL_boundS {S : List Nat} {m : Nat} (hS : S.length = 1) : ∀ (parts : List (List Nat)), (∀ p ∈ parts, p.length ≤ m) → (joinL S parts).length ≤ parts.length * (m + 1)
  | [], _ => by simp [joinL]
  | [p], h => by
    have := h p List.mem_cons_self
    simp only [joinL, List.length_singleton]
    omega
  | p :: q :: r, h => by
    have h1 := h p List.mem_cons_self
    have h2 := joinL_boundS hS (q :: r) fun x hx => h x (List.mem_cons_of_mem _ hx)
    show (p ++ (S ++ joinL S (q :: r))).length ≤ _
    simp only [List.length_append, List.length_cons, List.length_nil, Nat.add_mul, hS] at h2 ⊢
    omega
abbrev w8 (z : Str) : Prop := wOk z ∧ z.length ≤ 8
theorem wOk_comma {ws : List Str} (h : ∀ y ∈ ws, w8 y) (hl : ws.length ≤ 5) : wOk (Txt.join "," ws) := by
  have e : tl (Txt.join "," ws) = joinL [44] (ws.map tl) := by
    rw [join_eq, tl_join]
    rfl
  have hb := joinL_boundS (S := [44]) (m := 8) rfl (ws.map tl) fun p hp => by
    obtain ⟨y, hy, rfl⟩ := List.mem_map.mp hp
    rw [← len_tl]
    exact (h y hy).2
  rw [List.length_map] at hb
  refine ⟨by rw [len_tl, e]; omega, fun c hc => ?_⟩
  rw [e] at hc
  rcases joinL_memS _ hc with h1 | ⟨p, hp, h1⟩
  · rw [List.mem_singleton.mp h1]
    decide
  · obtain ⟨y, hy, rfl⟩ := List.mem_map.mp hp
    exact (h y hy).1.2 c h1
theorem small_ok : ∀ k : Nat, k < 20 → wOk (Str.ofString (toString (((k : Nat) : Int) - 12))) ∧ (Str.ofString (toString (((k : Nat) : Int) - 12))).length ≤ 8 ∧ (((k : Nat) : Int) - 12).natAbs.log2 < 1920 := by decide +kernel
theorem small_int {i : Int} (h1 : -12 ≤ i) (h2 : i ≤ 7) : w8 (Str.ofString (toString i)) ∧ i.natAbs.log2 < 1920 := by
  have h := small_ok (i + 12).toNat (by omega)
  have e : (((i + 12).toNat : Nat) : Int) - 12 = i := by omega
  rw [e] at h
  exact ⟨⟨h.1, h.2.1⟩, h.2.2⟩
section
variable {d a : Addr} {H0 : Hp} {σ : L2.St} {ta tb te : TE} {W : Str → Prop} {m n i : Nat} {ws : List Str} {K : PySem.W.Frag}
theorem tp_var {z : Str} (h : σ[i]? = some (some (.str z))) (hz : W z) : TP d H0 σ (tVar i) W := fun H Q _ q => ⟨_, h, q z H hz (Fd.refl d H)⟩
theorem tp_strI {j : Int} (h : KI σ te j) (h1 : -12 ≤ j) (h2 : j ≤ 7) : TP d H0 σ (tCB rStrI (tCons te tNil)) w8 := fun H Q _ q => h H _ ⟨j, rfl, (small_int h1 h2).2, q _ H (small_int h1 h2).1 (Fd.refl d H)⟩
theorem tp_ifB {b : Bool} (h : σ[i]? = some (some (.bl b))) (ha : TP d H0 σ ta W) (hb : TP d H0 σ tb W) : TP d H0 σ (tIf (tB (tVar i)) ta tb) W := fun H Q x q => ⟨_, h, b, rfl, ite2 (fun _ => ha H Q x q) (fun _ => hb H Q x q)⟩
theorem tp_comma (h : LP d H0 σ te (EL w8 n)) (hn : n ≤ 5) : TP d H0 σ (tM1 (rJoin K) (tC (.str ",")) te) wOk := by
  intro H Q x q
  refine ⟨⟨_, rfl⟩, h H _ x fun p l H1 ⟨ws, e, w, b⟩ hp x1 => ?_⟩
  subst e
  have hs := sum_bound (m := 8) ws fun y hy => (w y hy).2
  have hsp : (Str.length ",") = 1 := by decide +kernel
  exact ⟨",", p, ws, rfl, rfl, .inl (SqL.of hp), by rw [hsp]; omega, q _ _ (wOk_comma w (by omega)) x1⟩
theorem tp_tab {t : Addr} (hi : σ[i]? = some (some (.ref t))) (ht : SqT K H0 t (vS ws)) (hw : ∀ y ∈ ws, w8 y) (hn : ws.length ≤ 5) : TP d H0 σ (tIf (tTest (tOp (rNeD K) (tVar i) (tTup tNil))) (tM1 (rJoin K) (tC (.str ",")) (tVar i)) (tC (.str "-"))) wOk := by
  intro H Q x q
  have h1 := sqT_tupX x.tx ht
  refine ⟨_, hi, Nat.zero_le _, fun p hp => ⟨.tuple (ws.map .str), .tuple [], .tup (sqT_tupX (tupX_new hp) h1) (dp_texts ws), .tup (.inl (.inl upd_same)) .nil, ?_, rfl, _, rfl, ite2 (fun _ => ?_) (fun _ => ?_)⟩⟩
  · unfold SeqAt.shaped
    have hl := lay_texts ws fun y hy => sok_w (hw y hy).1
    rw [PyData.canLay0, hl, PyData.depth, depth_strs, decide_eq_true (by omega)]
    rfl
  · have hs := sum_bound (m := 8) ws fun y hy => (hw y hy).2
    have hsp : (Str.length ",") = 1 := by decide +kernel
    exact ⟨⟨_, rfl⟩, _, hi, ",", t, ws, rfl, rfl, .inr (sqT_tupX (tupX_new hp) h1), by rw [hsp]; omega, q _ _ (wOk_comma hw hn) (Fd.same (same_upd hp))⟩
  · exact q _ _ (by decide +kernel) (Fd.same (same_upd hp))
end
section
variable {P : Program} {w : World} {K : PySem.W.Frag} {mg : Str → Option Value} {base : Heap}
theorem ok_law_line (T : Tx K mg) : OkF P w K mg base CX0 1 "_law_line" ["_law_deed"] spLine := by
  have sc : FnScope ["_law_deed"] ["_law_deed"] (defScope (topS 50)) := ⟨rfl, rfl, rfl, by decide +kernel, rfl, by decide +kernel, by decide +kernel⟩
  refine okF T 34 50 rfl sc (fun _ _ _ _ _ _ us hl => match us, hl with | [_], _ => rfl) (fun vs H Q E ⟨_, e, _⟩ => by rw [e] <;> rfl) fun cdv A outer s H vs Q E hr ⟨v, e, h, hQ⟩ => ?_
  exact ⟨_, PSs.nox (pss_cons ps_never (pss_one ps_never)), h.elim⟩
theorem ok_law_web_lines (T : Tx K mg) : OkF P w K mg base CX0 1 "_law_web_lines" ["_law_net"] (spWebLines K) := by
  have sc : FnScope ["_law_net", "_law_found", "_law_tag", "_law_fee", "_law_has", "_law_table", "_law_words"] ["_law_net"] (defScope (topS 51)) := ⟨rfl, rfl, rfl, by decide +kernel, rfl, by decide +kernel, by decide +kernel⟩
  refine okF T 35 51 rfl sc (fun _ _ _ _ _ _ us hl => match us, hl with | [_], _ => rfl) (fun vs H Q E ⟨_, e, _⟩ => by rw [e] <;> rfl) fun cdv A outer s H vs Q E hr ⟨⟨net, d, vs0, ks, ask⟩, e, hN, hQ⟩ => ?_
  have e : vs = [V.ref net] := e
  subst e
  have hN : NetV K H net vs0 ks ask := hN
  have hS : 200000 ≤ sizeLine := by rw [sizeLine_eq]; decide
  refine ⟨_, PSs.nox (pss_cons (ps_set (i := 1) sc.nd rfl (Or.inl rfl) (pe_lst pa_nil))
 (pss_cons (ps_for PassesOwn.never rfl (pi_tup (pe_ix ix_tup (pv 0) pe_int (fun _ _ => rfl))) (pg_tup rfl (pgs_cons (pg_name (i := 2) sc.nd rfl (.inl rfl) (hf := .inr rfl)) (pgs_cons (pg_name (i := 3) sc.nd rfl (.inl rfl) (hf := .inr rfl)) (pgs_cons (pg_name (i := 4) sc.nd rfl (.inl rfl) (hf := .inr rfl)) (pgs_cons (pg_name (i := 5) sc.nd rfl (.inl rfl) (hf := .inr rfl)) pgs_nil))))) (pss_cons (ps_set (i := 6) sc.nd rfl (Or.inl rfl) (pe_lst (pa_cons pe_str (pa_cons (pv 2) (pa_cons (pe_callTy call_str_int rfl (T.bl (x := "str")) (by decide +kernel) (pa_cons (pv 3) pa_nil)) (pa_cons (pe_ifExp (pt_val (pv 4)) pe_str pe_str) (pa_cons (pe_ifExp (pt_cmpR (op_neD hr.units) (pv 5) (pe_tup pa_nil) (nomark _)) (pe_join pe_str (pv 5)) pe_str) pa_nil)))))))
 (pss_one (ps_expr (pe_bm PySem.F.plainAttrs_list PySem.F.slot_list_append PySem.F.type_list_append mt_append (pv 1) (pa_cons (pe_join pe_str (pv 6)) pa_nil))))))
 (pss_one (ps_ret (pe_op op_cat (pv 1) (pe_lst (pa_cons (pe_op op_add_str pe_str (pe_ix ix_tup (pv 0) pe_int (fun _ _ => rfl))) pa_nil))))))), ?_⟩
  obtain ⟨qa, hq1, hq2⟩ := hN.q
  have n4 := hN.n4
  have n1 := hN.n1
  refine ⟨Nat.zero_le _, fun l0 hl0 => ?_⟩
  have x1 : Fd d H (upd H l0 (.lst [])) := Fd.same (same_upd hl0)
  dsimp only [gName]
  refine ⟨_, rfl, net, _, 0, .ref qa, rfl, rfl, sqT_tupX x1.tx hq1, atI_nat (j := 0) rfl, qa, rfl, ⟨_, sqT_tupX x1.tx hq2⟩, ?_⟩
  refine for_it (walk_tup (K := K) (a := qa) (xs := vs0)) (fun i σ' H' => (∃ u2 u3 u4 u5 u6, σ' = [some (V.ref net), some (V.ref l0), u2, u3, u4, u5, u6]) ∧ ∃ l, H' l0 = some (.lst l) ∧ EL (lOk 5) i l ∧ Fd d H H')
    ⟨⟨_, _, _, _, _, rfl⟩, [], upd_same, ⟨[], rfl, fun _ h => (nomatch h), Nat.le_refl _⟩, x1⟩ (fun i σ' H' _ hP => ?_) (fun i x σ' H2' H2 hi hP hy => ?_) (fun σ' H2 hP => ?_)
  · obtain ⟨_, _, _, _, x⟩ := hP
    exact sqT_tupX x.tx hq2
  · obtain ⟨⟨u2, u3, u4, u5, u6, rfl⟩, l, g2, hE, x2⟩ := hP
    obtain ⟨rfl, hx⟩ := hy
    have hi2 : i < ks.length := by rw [← hN.l]; exact hi
    obtain ⟨kd, ekd⟩ : ∃ kd, kd = ks[i] := ⟨_, rfl⟩
    have hkd : ks[i]? = some kd := by rw [ekd]; exact List.getElem?_eq_getElem hi2
    have ok := hN.o kd (List.mem_of_getElem? hkd)
    have f1 := ok.f1
    have f3 := ok.f3
    obtain ⟨p, t, rfl, hp, ht⟩ := hN.k i x kd hx hkd
    have hp2 := sqT_tupX x2.tx hp
    have ht2 := sqT_tupX x2.tx ht
    refine ⟨p, _, rfl, hp2, rfl, _, _, rfl, _, _, rfl, _, _, rfl, _, _, rfl, rfl, ?_⟩
    refine asg_lp (d := d) (R := EX wOk 5) (lp_lst (ap_cons (tp_c (by decide +kernel)) (ap_cons (tp_var rfl ok.tg) (ap_cons ((tp_strI (ki_v (k := kd.fee) rfl) (by omega) (by omega)).mono fun z hz => hz.1) (ap_cons (tp_ifB (b := kd.has) rfl (tp_c (by decide +kernel)) (tp_c (by decide +kernel))) (ap_cons (tp_tab rfl ht2 ok.tw ok.tn) ap_nil))))) (by decide)) fun p6 l6 H6 r6 h6 x6 => ?_
    obtain ⟨us, rfl, hw, hn⟩ := r6
    have g6 := x6.lst g2
    refine ⟨_, rfl, .inl ⟨rfl, _, SqL.of g6⟩, tcons1 (tp_join (K := K) (lp_le (lp_var rfl h6 hw) (Nat.le_of_eq hn)) (by decide) (by decide) H6 _ (Fd.refl d H6) fun z H7 hz x7 => ?_)⟩
    have hEl := hE
    obtain ⟨vs, e, _, hb⟩ := hEl
    refine ⟨l0, l, _, rfl, rfl, x7.lst g6, by rw [e, List.length_map]; omega, ⟨_, _, _, _, _, rfl⟩, _, upd_same, el_snoc hE hz, ((x2.trans x6).trans x7).new hl0⟩
  · obtain ⟨⟨u2, u3, u4, u5, u6, rfl⟩, l, g2, hE, x2⟩ := hP
    obtain ⟨us, rfl, hw, hn⟩ := hE
    have hask : wOk ask := by
      obtain ⟨kd, hk, e⟩ := hN.a
      rw [← e]
      exact (hN.o kd hk).tg
    have hT : ∀ ss : L2.St, ss[0]? = some (some (V.ref net)) → TP d H2 ss (tOp (rIxT K) (tVar 0) (tC (.int 1))) wOk := fun ss h0 H3 Q3 x3 q3 => ⟨_, h0, net, _, 1, .str ask, rfl, rfl, sqT_tupX x3.tx (sqT_tupX x2.tx hq1), atI_nat (j := 1) rfl, q3 ask H3 hask (Fd.refl d H3)⟩
    refine ret_lp (d := d) (lp_cat (lp_le (lp_var rfl g2 hw) hn) (lp_one ((tp_pre (a := "asker") (by decide +kernel) (by decide +kernel) (hT _ rfl)).mono fun z hz => hz.mono (by decide))) (by omega)) fun p3 l3 H3 r3 h3 x3 => ?_
    obtain ⟨vs3, e3, w3, b3⟩ := r3
    exact hQ _ _ ⟨⟨p3, l3, rfl, h3, vs3, e3, w3, by omega⟩, x2.trans x3⟩
theorem ok_law_lines (T : Tx K mg) : OkF P w K mg base CX0 2 "_law_lines" ["_law_start_here", "_law_events"] (spLines K) := by
  have sc : FnScope ["_law_start_here", "_law_events", "_law_net", "_law_counts", "_law_load", "_law_gate", "_law_first", "_law_many", "_law_deed"] ["_law_start_here", "_law_events"] (defScope (topS 52)) := ⟨rfl, rfl, rfl, by decide +kernel, rfl, by decide +kernel, by decide +kernel⟩
  refine okF T 36 52 rfl sc (fun _ _ _ _ _ _ us hl => match us, hl with | [_, _], _ => rfl) (fun vs H Q E ⟨_, e, _⟩ => by rw [e] <;> rfl) fun cdv A outer s H vs Q E hr ⟨⟨v0, le, d, vs0, ks, ask, ns, load, g, net⟩, e, ⟨hSt, hle⟩, hQ⟩ => ?_
  have e : vs = [v0, V.ref le] := e
  subst e
  have hS : 200000 ≤ sizeLine := by rw [sizeLine_eq]; decide
  refine ⟨_, PSs.nox (pss_cons (ps_asg (pv 0) (pg_tup rfl (pgs_cons (pg_name (i := 2) sc.nd rfl (.inl rfl) (hf := .inr rfl)) (pgs_cons (pg_name (i := 3) sc.nd rfl (.inl rfl) (hf := .inr rfl)) (pgs_cons (pg_name (i := 4) sc.nd rfl (.inl rfl) (hf := .inr rfl)) (pgs_cons (pg_name (i := 5) sc.nd rfl (.inl rfl) (hf := .inr rfl)) pgs_nil))))))
 (pss_cons (ps_set (i := 6) sc.nd rfl (Or.inl rfl) (pe_lst (pa_cons pe_str (pa_cons (pv 5) (pa_cons (pe_callTy call_str_int rfl (T.bl (x := "str")) (by decide +kernel) (pa_cons (pv 4) pa_nil)) (pa_cons (pe_join pe_str (pe_lc (own := [("_law_many", 7)]) (g := gName 7) (by rfl) sc.nd (pi_tup (pv 3)) (blkOk_by (own := [("_law_many", 7)]) (N := ["_law_start_here", "_law_events", "_law_net", "_law_counts", "_law_load", "_law_gate", "_law_first", "_law_many", "_law_deed"]) (sc := (defScope (topS 52))) (by decide +kernel)) (fun _ _ _ _ _ => (pg_name (i := 7) sc.nd rfl (.inl rfl) (hf := .inr rfl))) (fun _ _ _ _ _ => pts_nil) (fun _ _ _ _ _ => (pe_callTy call_str_int rfl (T.bl (x := "str")) (by decide +kernel) (pa_cons (pv 7) pa_nil))))) (pa_cons (pe_callTy call_str_int rfl (T.bl (x := "str")) (by decide +kernel) (pa_cons (pe_op op_add (pe_callB call_len rfl (T.bl (x := "len")) (by decide +kernel) (pa_cons (pe_ix ix_tup (pv 2) pe_int (fun _ _ => rfl)) pa_nil)) pe_int) pa_nil)) pa_nil)))))))
 (pss_one (ps_ret (pe_op op_cat (pe_op op_cat (pe_lst (pa_cons (pe_join pe_str (pv 6)) pa_nil)) (pe_fn (ok_law_web_lines T) (hr.mono (by decide)) pass0 (pa_cons (pv 2) pa_nil))) (pe_lc (own := [("_law_deed", 8)]) (g := gName 8) (by rfl) sc.nd (pi_list (pv 1)) (blkOk_by (own := [("_law_deed", 8)]) (N := ["_law_start_here", "_law_events", "_law_net", "_law_counts", "_law_load", "_law_gate", "_law_first", "_law_many", "_law_deed"]) (sc := (defScope (topS 52))) (by decide +kernel)) (fun _ _ _ _ _ => (pg_name (i := 8) sc.nd rfl (.inl rfl) (hf := .inr rfl))) (fun _ _ _ _ _ => pts_nil) (fun _ _ _ _ _ => (pe_fn (ok_law_line T) (hr.mono (by decide)) pass0 (pa_cons (pv 8) pa_nil))))))))), ?_⟩
  obtain ⟨⟨p, c, e0, hp, hc⟩, hN, hn4, hnb, hl1, hl2, hg⟩ := hSt
  have e0 : v0 = V.ref p := e0
  subst e0
  have hle : H le = some (.lst []) := hle
  have hN : NetV K H net vs0 ks ask := hN
  have hp : SqT K H p [.ref net, .ref c, .int load, .str g] := hp
  have hc : SqT K H c (ns.map V.int) := hc
  have hn4 : ns.length ≤ 4 := hn4
  have hnb : ∀ i ∈ ns, 1 ≤ i ∧ i ≤ 3 := hnb
  have hl1 : -10 ≤ load := hl1
  have hl2 : load ≤ 5 := hl2
  have hg : wOk g := by
    have hg : g = "on" ∨ g = "off" := hg
    rcases hg with rfl | rfl
    · decide +kernel
    · decide +kernel
  obtain ⟨qa, hq1, hq2⟩ := hN.q
  have n4 := hN.n4
  have n1 := hN.n1
  refine ⟨_, rfl, p, _, rfl, hp, rfl, _, _, rfl, _, _, rfl, _, _, rfl, _, _, rfl, rfl, ?_⟩
  have tCnt : ∀ ss : L2.St, ss[3]? = some (some (V.ref c)) → ∀ (vs : List Nat) (hv : ∀ x, wipe ((wipe ss vs).set 7 (some x)) vs = wipe ss vs) (hx : ∀ x, ((wipe ss vs).set 7 (some x))[7]? = some (some x)), LP d H ss (tLc (iTup K (tVar 3)) (gName 7) tYes (tCB rStrI (tCons (tVar 7) tNil)) vs) (EL w8 5) := by
    intro ss h3 vs hv hx H1 Q1 x1 q1
    refine ⟨_, h3, c, rfl, ⟨_, sqT_tupX x1.tx hc⟩, fun D hD => ?_⟩
    refine lcw (walk_tup (K := K) (a := c) (xs := ns.map V.int)) (fram_fd d) hD (by rw [List.length_map]; omega) (fun H' r => sqT_tupX (x1.trans r).tx hc) (fun i acc _ => EL w8 i acc) (fun _ _ _ _ _ h => h) ⟨[], rfl, fun _ h => (nomatch h), Nat.le_refl _⟩ (fun i x acc H2 H3 hi r y hI hacc Zk Zs hk hz => ?_) (fun H2 acc r hacc hI => ?_)
    · obtain ⟨rfl, hx3⟩ := y
      rw [List.getElem?_map] at hx3
      obtain ⟨n, hn, rfl⟩ := Option.map_eq_some_iff.mp hx3
      have hb := hnb n (List.mem_of_getElem? hn)
      exact ⟨hv _, yes_turn (tp_strI (d := d) (H0 := H3) (j := n) (ki_v (hx _)) (by omega) (by omega) _ _ (Fd.refl d H3) fun z H4 hz4 x4 => hk (.str z) H4 x4 (el_snoc hI hz4))⟩
    · obtain ⟨us, e, w, b⟩ := hI
      rw [List.length_map] at b
      exact q1 D acc H2 ⟨us, e, w, by omega⟩ hacc r
  have tMany : ∀ ss : L2.St, ss[2]? = some (some (V.ref net)) → TP d H ss (tCB rStrI (tCons (tOp (rI0 fun i j => .int (i + j)) (tCB (fun xs H Q => ∃ x n, xs = [x] ∧ LenV K x H n ∧ Q (.int (n : Nat)) H) (tCons (tOp (rIxT K) (tVar 2) (tC (.int 0))) tNil)) (tC (.int 1))) tNil)) wOk := fun ss h2 H1 Q1 x1 q1 => ⟨_, h2, net, _, 0, .ref qa, rfl, rfl, sqT_tupX x1.tx hq1, atI_nat (j := 0) rfl, _, _, rfl, .inr ⟨_, sqT_tupX x1.tx hq2, rfl⟩, _, _, rfl, rfl, _, rfl, (small_int (by omega) (by omega)).2, q1 _ H1 (small_int (by omega) (by omega)).1.1 (Fd.refl d H1)⟩
  refine asg_lp (d := d) (R := EX wOk 5) (lp_lst (ap_cons (tp_c (by decide +kernel)) (ap_cons (tp_var rfl hg) (ap_cons ((tp_strI (ki_v (k := load) rfl) (by omega) (by omega)).mono fun z hz => hz.1) (ap_cons (tp_comma (tCnt _ rfl _ (fun _ => rfl) (fun _ => rfl)) (by decide)) (ap_cons (tMany _ rfl) ap_nil))))) (by decide)) fun p6 l6 H6 r6 h6 x6 => ?_
  obtain ⟨us, rfl, hw, hn⟩ := r6
  have tWeb : ∀ ss : L2.St, ss[2]? = some (some (V.ref net)) → LP d H6 ss (tFn (spWebLines K) E0 (tCons (tVar 2) tNil)) (EL (lOk 5) 5) := fun ss h2 H1 Q1 x1 q1 => ⟨_, h2, (net, d, vs0, ks, ask), rfl, netv_x (x6.trans x1).tx hN, fun r H2 q2 => by
    obtain ⟨⟨p2, l2, rfl, h2, hE⟩, x2⟩ := q2
    exact q1 p2 l2 H2 hE h2 x2⟩
  have tNone : ∀ ss : L2.St, ss[1]? = some (some (V.ref le)) → ∀ vs : List Nat, LP d H6 ss (tLc (iList K (tVar 1)) (gName 8) tYes (tFn spLine E0 (tCons (tVar 8) tNil)) vs) (EL (lOk 5) 0) := by
    intro ss h1 vs H1 Q1 x1 q1
    have e1 := (x6.trans x1).lst hle
    refine ⟨_, h1, le, rfl, ⟨_, SqL.of e1⟩, fun D hD => ?_⟩
    refine lcw (walk_list (K := K) (a := le) (xs := [])) (fram_fd d) hD (Nat.zero_le _) (fun H' r => SqL.of (r.lst e1)) (fun i acc _ => acc = []) (fun _ _ _ _ _ h => h) rfl (fun i x acc H2 H3 hi r y hI hacc Zk Zs hk hz => absurd hi (Nat.not_lt_zero i)) (fun H2 acc r hacc hI => ?_)
    exact q1 D acc H2 ⟨[], hI, fun _ h => (nomatch h), Nat.le_refl _⟩ hacc r
  refine ret_lp (d := d) (lp_cat (lp_cat (lp_one (tp_join (K := K) (lp_le (lp_var rfl h6 hw) (Nat.le_of_eq hn)) (by decide) (by decide))) (tWeb _ rfl) (by decide)) (tNone _ rfl _) (by decide)) fun p7 l7 H7 r7 h7 x7 => ?_
  exact hQ _ _ ⟨⟨p7, l7, rfl, h7, r7⟩, x6.trans x7⟩
end
end Fl

-- KN2
/-! what is heard of a call -/
namespace Fl
open PySem PySem.Spec PyProof.Rows L2 TL RZ
theorem pe_never {X : Cx} {e : Expr} : PE X e (fun _ _ _ => False) := ⟨fun _ _ _ _ _ _ h => h.elim⟩
/-- told: the answer in a tuple; an InvalidText's fields in a tuple -/
def TTh (K : PySem.W.Frag) : (XK → Hp → VK → Prop) → Hp → VK → Prop := fun tl H Q =>
  tl (fun cls d H' => ∃ n i : Int, ItX K n i cls d H' ∧ ∀ p H'', SqT K H'' p [.str "text", .int n, .int i] → Same H' H'' → Q (.ref p) H'') H fun v H' => [V.str "told", v].length ≤ sizeLine ∧ ∀ p, H' p = none → Q (.ref p) (upd H' p (.tup [.str "told", v]))
abbrev hdN : List Str := ["_law_ask", "fault", "_law_kinds"]
def hdSuite : List Stmt := match defBody (topS 53) with
  | [.Try _ [.ExceptHandler _ _ b _] _ _ _] => b
  | _ => []
section
variable {P : Program} {w : World} {K : PySem.W.Frag} {mg : Str → Option Value} {base : Heap}
theorem heard_suite {g : Addr} {cdg : Value} {A : Around} {outer : List Env} {s : Shared} {H0 : Hp} {E : XK} {k : Nat} (T : Tx K mg) (hr : Room k (A.deeper (envOfC "_law_heard" (defScope (topS 53)) s.heap.objs.size g cdg)))
    {a dd : Addr} {oe : Obj} {pn : List (Addr × Obj)} (hz : Zc (.ref (itA K)) (some dd) oe) (hf : ∃ vs, oe.data = .fields vs) :
    ∃ t : TS, PSs ((cxOf C8.CX0 P w K mg base hdN "_law_heard" (defScope (topS 53)) g cdg A outer s H0 E).nox.suite a ((a, oe) :: pn)) hdSuite t ∧
      ∀ (D : Ends) (H : Hp) (x z : Option V) (n i : Int), H dd = some (.xd (itF (.int n) (.int i))) → (∀ p H'', SqT K H'' p [.str "text", .int n, .int i] → Same H H'' → D.rt (.ref p) H'') → t D [x, some (.ref a), z] H := by
  have sc : FnScope hdN ["_law_ask"] (defScope (topS 53)) := ⟨rfl, rfl, rfl, by decide +kernel, rfl, by decide +kernel, by decide +kernel⟩
  have hp : (a, oe) ∈ (a, oe) :: pn := List.mem_cons_self
  refine ⟨_, (pss_cons (ps_set (i := 2) sc.nd rfl (Or.inl rfl) (pe_lst (pa_cons (pe_callB (call_isED T.exc hp hz hf) rfl (T.bl (x := "isinstance")) (by decide +kernel) (pa_cons (pv 1) (pa_cons (pe_glob (v := .ref (He.ga K "PaperError")) rfl (T.ex (x := "PaperError")) rfl) pa_nil))) (pa_cons (pe_callB (call_isED T.exc hp hz hf) rfl (T.bl (x := "isinstance")) (by decide +kernel) (pa_cons (pv 1) (pa_cons (pe_glob (v := .ref (He.ga K "WebError")) rfl (T.ex (x := "WebError")) rfl) pa_nil))) (pa_cons (pe_callB (call_isED T.exc hp hz hf) rfl (T.bl (x := "isinstance")) (by decide +kernel) (pa_cons (pv 1) (pa_cons (pe_glob (v := .ref (He.ga K "LiveError")) rfl (T.ex (x := "LiveError")) rfl) pa_nil))) pa_nil)))))
 (pss_cons (ps_set (i := 2) sc.nd rfl (Or.inl rfl) (pe_op op_cat (pv 2) (pe_lst (pa_cons (pe_callB (call_isED T.exc hp hz hf) rfl (T.bl (x := "isinstance")) (by decide +kernel) (pa_cons (pv 1) (pa_cons (pe_glob (v := .ref (He.ga K "TextError")) rfl (T.ex (x := "TextError")) rfl) pa_nil))) pa_nil))))
 (pss_cons (ps_if (PW.pt (pw_and (pt_cmpR (op_eqD hr.units) (pv 2) (pe_lst (pa_cons pe_bl (pa_cons pe_bl (pa_cons pe_bl (pa_cons pe_bl pa_nil))))) (nomark _)) (pw_and1 (pt_val (pe_callB (call_isED T.exc hp hz hf) rfl (T.bl (x := "isinstance")) (by decide +kernel) (pa_cons (pv 1) (pa_cons (pe_glob (v := .ref (He.ga K "InvalidPaper")) rfl (T.ex (x := "InvalidPaper")) rfl) pa_nil))))))) (pss_one ps_never) pss_nil)
 (pss_cons (ps_if (PW.pt (pw_and (pt_cmpR (op_eqD hr.units) (pv 2) (pe_lst (pa_cons pe_bl (pa_cons pe_bl (pa_cons pe_bl (pa_cons pe_bl pa_nil))))) (nomark _)) (pw_and (pt_val (pe_callB (call_isED T.exc hp hz hf) rfl (T.bl (x := "isinstance")) (by decide +kernel) (pa_cons (pv 1) (pa_cons (pe_glob (v := .ref (He.ga K "NotUsable")) rfl (T.ex (x := "NotUsable")) rfl) pa_nil)))) (pw_and1 (pt_not (pt_val (pe_callB (call_isED T.exc hp hz hf) rfl (T.bl (x := "isinstance")) (by decide +kernel) (pa_cons (pv 1) (pa_cons (pe_glob (v := .ref (He.ga K "Missed")) rfl (T.ex (x := "Missed")) rfl) pa_nil))))))))) (pss_one ps_never) pss_nil)
 (pss_cons (ps_if (PW.pt (pw_and (pt_cmpR (op_eqD hr.units) (pv 2) (pe_lst (pa_cons pe_bl (pa_cons pe_bl (pa_cons pe_bl (pa_cons pe_bl pa_nil))))) (nomark _)) (pw_and1 (pt_cmpR op_ne (pe_callB (call_isED T.exc hp hz hf) rfl (T.bl (x := "isinstance")) (by decide +kernel) (pa_cons (pv 1) (pa_cons (pe_glob (v := .ref (He.ga K "InvalidEvent")) rfl (T.ex (x := "InvalidEvent")) rfl) pa_nil))) (pe_callB (call_isED T.exc hp hz hf) rfl (T.bl (x := "isinstance")) (by decide +kernel) (pa_cons (pv 1) (pa_cons (pe_glob (v := .ref (He.ga K "NothingToUndo")) rfl (T.ex (x := "NothingToUndo")) rfl) pa_nil))) (nomark _))))) (pss_one ps_never) pss_nil)
 (pss_cons (ps_if (PW.pt (pw_and (pt_cmpR (op_eqD hr.units) (pv 2) (pe_lst (pa_cons pe_bl (pa_cons pe_bl (pa_cons pe_bl (pa_cons pe_bl pa_nil))))) (nomark _)) (pw_and1 (pt_cmpR op_ne (pe_callB (call_isED T.exc hp hz hf) rfl (T.bl (x := "isinstance")) (by decide +kernel) (pa_cons (pv 1) (pa_cons (pe_glob (v := .ref (He.ga K "InvalidText")) rfl (T.ex (x := "InvalidText")) rfl) pa_nil))) (pe_callB (call_isED T.exc hp hz hf) rfl (T.bl (x := "isinstance")) (by decide +kernel) (pa_cons (pv 1) (pa_cons (pe_glob (v := .ref (He.ga K "InvalidRow")) rfl (T.ex (x := "InvalidRow")) rfl) pa_nil))) (nomark _))))) (pss_one (ps_ret (pe_ifExp (pt_val (pe_callB (call_isED T.exc hp hz hf) rfl (T.bl (x := "isinstance")) (by decide +kernel) (pa_cons (pv 1) (pa_cons (pe_glob (v := .ref (He.ga K "InvalidText")) rfl (T.ex (x := "InvalidText")) rfl) pa_nil)))) (pe_tup (pa_cons pe_str (pa_cons (pe_xfY T.xf T.itT.no1 hp hz hf (pv 1)) (pa_cons (pe_xfY T.xf T.itT.no2 hp hz hf (pv 1)) pa_nil)))) (pe_tup (pa_cons pe_str (pa_cons pe_never pa_nil)))))) pss_nil)
 (pss_one ps_never))))))), fun D H x z n i hd hq => ?_⟩
  have hS : 200000 ≤ sizeLine := by rw [sizeLine_eq]; decide
  refine ⟨_, rfl, .ref _, .ref _, false, _, rfl, hd, fun _ h => h, T.kit 0, _, rfl, .ref _, .ref _, false, _, rfl, hd, fun _ h => h, T.kit 1, _, rfl, .ref _, .ref _, false, _, rfl, hd, fun _ h => h, T.kit 2, by show 3 ≤ _; omega, fun p1 hp1 => ?_⟩
  have s1 := same_upd hp1 (o := .lst [V.bl false, V.bl false, V.bl false])
  refine ⟨_, rfl, _, rfl, .ref _, .ref _, true, _, rfl, s1 _ _ hd, fun _ h => h, T.kit 3, by show 1 ≤ _; omega, fun p2 hp2 => ?_⟩
  have s2 := same_upd hp2 (o := .lst [V.bl true])
  refine ⟨p1, p2, [V.bl false, V.bl false, V.bl false], [V.bl true], rfl, rfl, s2 _ _ upd_same, upd_same, by show 4 ≤ _; omega, fun p3 hp3 => ?_⟩
  have s3 := same_upd hp3 (o := .lst ([V.bl false, V.bl false, V.bl false] ++ [V.bl true]))
  have t3 := (s1.trans s2).trans s3
  have e3 : (upd (upd (upd H p1 (.lst [V.bl false, V.bl false, V.bl false])) p2 (.lst [V.bl true])) p3 (.lst ([V.bl false, V.bl false, V.bl false] ++ [V.bl true]))) p3 = some (.lst [V.bl false, V.bl false, V.bl false, V.bl true]) := upd_same
  obtain ⟨H3, hH3⟩ : ∃ H3, H3 = upd (upd (upd H p1 (.lst [V.bl false, V.bl false, V.bl false])) p2 (.lst [V.bl true])) p3 (.lst ([V.bl false, V.bl false, V.bl false] ++ [V.bl true])) := ⟨_, rfl⟩
  rw [← hH3] at t3 e3 ⊢
  have go : ∀ {H4 : Hp}, Same H3 H4 → Dp K H4 (.ref p3) (.list [.bool false, .bool false, .bool false, .bool true]) := fun s4 => .lst (SqL.of (s4 _ _ e3)) (.cons (.bl _) (.cons (.bl _) (.cons (.bl _) (.cons (.bl _) .nil))))
  have new : ∀ {H4 : Hp} {p : Addr} (b1 b2 b3 b4 : Bool), Dp K (upd H4 p (.lst [V.bl b1, V.bl b2, V.bl b3, V.bl b4])) (.ref p) (.list [.bool b1, .bool b2, .bool b3, .bool b4]) := fun b1 b2 b3 b4 => .lst (SqL.of upd_same) (.cons (.bl _) (.cons (.bl _) (.cons (.bl _) (.cons (.bl _) .nil))))
  refine ⟨_, rfl, by show 4 ≤ _; omega, fun p4 hp4 => ⟨_, _, go (same_upd hp4), new true false false false, rfl, rfl, _, rfl, ite_f rfl ?_⟩⟩
  have t4 := same_upd hp4 (o := .lst [V.bl true, V.bl false, V.bl false, V.bl false])
  refine ⟨_, rfl, by show 4 ≤ _; omega, fun p5 hp5 => ⟨_, _, go (t4.trans (same_upd hp5)), new false true false false, rfl, rfl, _, rfl, ite_f rfl ?_⟩⟩
  have t5 := t4.trans (same_upd hp5 (o := .lst [V.bl false, V.bl true, V.bl false, V.bl false]))
  refine ⟨_, rfl, by show 4 ≤ _; omega, fun p6 hp6 => ⟨_, _, go (t5.trans (same_upd hp6)), new false false true false, rfl, rfl, _, rfl, ite_f rfl ?_⟩⟩
  have t6 := t5.trans (same_upd hp6 (o := .lst [V.bl false, V.bl false, V.bl true, V.bl false]))
  refine ⟨_, rfl, by show 4 ≤ _; omega, fun p7 hp7 => ⟨_, _, go (t6.trans (same_upd hp7)), new false false false true, rfl, rfl, _, rfl, ite_t rfl ?_⟩⟩
  have t7 := t3.trans (t6.trans (same_upd hp7 (o := .lst [V.bl false, V.bl false, V.bl false, V.bl true])))
  have d7 := t7 _ _ hd
  refine ⟨_, rfl, .ref _, .ref _, true, _, rfl, d7, fun _ h => h, T.kit 4, _, rfl, .ref _, .ref _, false, _, rfl, d7, fun _ h => h, T.kit 5, rfl, _, rfl, ite_t rfl ?_⟩
  refine ⟨_, rfl, .ref _, .ref _, true, _, rfl, d7, fun _ h => h, T.kit 4, _, rfl, ite_t rfl ?_⟩
  exact ⟨_, rfl, rfl, rfl, dd, _, _, rfl, d7, itF_line _ _, _, rfl, rfl, rfl, dd, _, _, rfl, d7, itF_field _ _, by show 3 ≤ _; omega, fun pz hpz => hq pz _ (.inl (.inl upd_same)) (t7.trans (same_upd hpz))⟩
end
section
variable {X : Cx}
theorem heard_gives {g : Addr} {cdg : Value} {q : Str} {k : Nat} (T : Tx X.K X.mg) (hr0 : Room (k + 1) X.A) : LamX.GivesTo X hdN "_law_heard" (defScope (topS 53)) g cdg (defBody (topS 53)) "_law_ask" q (TTh X.K) := by
  intro f c' s H Q tl act hc h
  have sc : FnScope hdN ["_law_ask"] (defScope (topS 53)) := ⟨rfl, rfl, rfl, by decide +kernel, rfl, by decide +kernel, by decide +kernel⟩
  refine ⟨_, pss_one (L2.ps_try_as (X := (cxOf C8.CX0 X.prog X.w X.K X.mg X.base hdN "_law_heard" (defScope (topS 53)) g cdg X.A X.stack s H C8.E0).nox) (i := 1) (c := .ref (He.ga X.K "LetterError"))
    (tb := fun W D σ H => ∃ Ech : XK, (∀ cls d σ' H', Ech cls d H' → W cls d σ' H') ∧ σ[0]? = some (some (.ref f)) ∧ H c' = some (LamX.CodeO c' q) ∧ tl Ech H fun v H' => [V.str "told", v].length ≤ sizeLine ∧ ∀ p, H' p = none → D.rt (.ref p) (upd H' p (.tup [.str "told", v])))
    (ts := fun a cls d D σ H => ∃ (dd : Addr) (n i : Int) (σ' : L2.St), cls = .ref (itA X.K) ∧ d = some dd ∧ σ = σ'.set 1 (some (.ref a)) ∧ H dd = some (.xd (itF (.int n) (.int i))) ∧ ∀ p H'', SqT X.K H'' p [.str "text", .int n, .int i] → Same H H'' → D.rt (.ref p) H'')
    rfl rfl sc.nd rfl rfl ⟨rfl, by decide, .inl (T.ex (x := "LetterError"))⟩ LamX.takes0 (fun W pn xe tk _ => ⟨fun pins s' σ H' D I h' => ?_⟩) (fun a oe cls d pn hz hf => ⟨fun pins s' σ H' D I h' => ?_⟩)), ?_⟩
  · obtain ⟨Ech, hW, h1, h2, h3⟩ := h'
    exact (pss_one (ps_ret (pe_tup (pa_cons pe_str (pa_cons (act W pn xe Ech _ _ tk hW) pa_nil))))).run pins s' σ H' D I ⟨h1, h2, h3⟩
  · obtain ⟨dd, n, i, σ', rfl, rfl, rfl, hd, hq⟩ := h'
    obtain ⟨t, ht, hg⟩ := heard_suite (P := X.prog) (w := X.w) (base := X.base) (outer := X.stack) (s := s) (H0 := H) (E := C8.E0) (g := g) (cdg := cdg) (pn := pn) T (hr0.deeper _) hz hf
    have hl := I.len
    rw [List.length_set] at hl
    have hl3 : σ'.length = 3 := hl
    obtain ⟨x, y, z, rfl⟩ : ∃ x y z, σ' = [x, y, z] := by
      match σ', hl3 with
      | [x, y, z], _ => exact ⟨x, y, z, rfl⟩
    exact ht.run pins s' _ H' D I (hg D H' x z n i hd hq)
  · refine ⟨_, fun cls d σ' H' hx => ?_, rfl, hc, h⟩
    obtain ⟨n, i, ⟨e1, dd, e2, hd⟩, hq⟩ := hx
    exact ⟨true, by rw [e1]; exact T.tups.2.2.2, fun _ a _ => ⟨dd, n, i, σ', e1, e2, rfl, hd, hq⟩, fun z => nomatch z⟩
end
end Fl

-- KN3
/-! texts of events, spoilt; frames with code tables; a call with a lambda -/
namespace Fl
open PySem PySem.Spec PyProof.Rows L2 TL RZ
/-! ### texts -/
def tOk (z : Str) : Prop := z.length ≤ 890 ∧ ∀ c ∈ tl z, c < 128
theorem tOk.t {z : Str} (h : tOk z) : TxtOk z := ⟨by have := h.1; omega, fun y hy => Nat.le_trans (wds_mem_len hy) (by have := h.1; omega)⟩
theorem tOk.s {z : Str} (h : tOk z) : sok z := sok_iff.mpr fun c hc => by
  have := h.2 c hc
  omega
theorem lOk.tOk {n : Nat} {z : Str} (h : lOk n z) (hn : n ≤ 10) : tOk z := ⟨by have := h.len; omega, fun c hc => (h.sign c hc).1⟩
theorem len_app (a b : Str) : (a ++ b).length = a.length + b.length := by rw [len_tl, len_tl a, len_tl b, tl_append, List.length_append]
theorem tOk_app {a b : Str} (ha : ∀ c ∈ tl a, c < 128) (hb : ∀ c ∈ tl b, c < 128) (hl : a.length + b.length ≤ 890) : tOk (a ++ b) := ⟨by rw [len_app]; exact hl, fun c hc => by
  rw [tl_append] at hc
  exact (List.mem_append.mp hc).elim (ha c) (hb c)⟩
theorem cutS_tl {z : Str} {lo hi : Option Int} : ∀ c ∈ tl (cutS z lo hi), c ∈ tl z := fun c hc => by
  have hc : c ∈ ((z.cps.toList.drop (HT.sIx z.length 0 lo)).take (HT.sIx z.length z.length hi - HT.sIx z.length 0 lo)).toArray.toList := hc
  exact List.mem_of_mem_drop (List.mem_of_mem_take hc)
theorem join2_len : ∀ ps : List (List Nat), (joinL [32, 32] ps).length ≤ 2 * (joinL [32] ps).length
  | [] => by simp [joinL]
  | [p] => by simp only [joinL]; omega
  | p :: q :: r => by
    have ih := join2_len (q :: r)
    show (p ++ ([32, 32] ++ joinL [32, 32] (q :: r))).length ≤ 2 * (p ++ ([32] ++ joinL [32] (q :: r))).length
    simp only [List.length_append, List.length_cons, List.length_nil]
    omega
theorem join2_mem {c : Nat} : ∀ ps : List (List Nat), c ∈ joinL [32, 32] ps → c = 32 ∨ c ∈ joinL [32] ps
  | [], h => by cases h
  | [p], h => .inr h
  | p :: q :: r, h => by
    have h : c ∈ p ++ ([32, 32] ++ joinL [32, 32] (q :: r)) := h
    show _ ∨ c ∈ p ++ ([32] ++ joinL [32] (q :: r))
    simp only [List.mem_append, List.mem_cons, List.not_mem_nil, or_false, or_self] at h ⊢
    rcases h with h | h | h
    · exact .inr (.inl h)
    · exact .inl h
    · exact (join2_mem (q :: r) h).imp id fun h => .inr (.inr h)
theorem repl_tOk {z : Str} (hl : z.length ≤ 440) (hc : ∀ c ∈ tl z, c < 128) : tOk (Txt.replace z " " "  ") := by
  unfold Txt.replace
  split
  · exact ⟨by omega, hc⟩
  · obtain ⟨ps, hps⟩ : ∃ ps, ps = Builtin.Str.partsBetween z (Builtin.Str.occurrences z " " 0 z.length (z.length + 1)) (Str.length " ") := ⟨_, rfl⟩
    have e1 : Txt.join " " ps = z := by rw [hps]; exact StrLaws.glued_between_self z " " _
    have e2 : tl z = joinL [32] (ps.map tl) := by
      have e3 : tl (Txt.join " " ps) = joinL (tl " ") (ps.map tl) := by rw [join_eq, tl_join]
      rw [e1] at e3
      exact e3
    rw [← hps]
    have e4 : tl (Txt.join "  " ps) = joinL [32, 32] (ps.map tl) := by rw [join_eq, tl_join] <;> rfl
    show tOk (Txt.join "  " ps)
    refine ⟨?_, fun c h => ?_⟩
    · have h1 := join2_len (ps.map tl)
      rw [← e2, ← len_tl] at h1
      rw [len_tl, e4]
      omega
    · rw [e4] at h
      rcases join2_mem _ h with h | h
      · rw [h]; decide
      · rw [← e2] at h
        exact hc c h
/-! ### frames -/
structure Ft (d : Addr) (Tt : List (Addr × Str)) (H H' : Hp) : Prop where
  x : ∀ b o, H b = some o → (∀ kvs, o ≠ .dK kvs) → (∀ ps, o ≠ .tbl ps) → H' b = some o
  f : ∀ c, FeedC H d c → FeedC H' d c
  t : LamX.Tabs Tt H → LamX.Tabs Tt H'
section
variable {d : Addr} {Tt : List (Addr × Str)} {H H1 H' : Hp}
theorem Ft.refl (d : Addr) (Tt : List (Addr × Str)) (H : Hp) : Ft d Tt H H := ⟨fun _ _ h _ _ => h, fun _ h => h, fun h => h⟩
theorem Ft.trans (a : Ft d Tt H H1) (b : Ft d Tt H1 H') : Ft d Tt H H' := ⟨fun c o h n m => b.x c o (a.x c o h n m) n m, fun c h => b.f c (a.f c h), fun h => b.t (a.t h)⟩
theorem Ft.fd (a : Fd d H H') : Ft d Tt H H' := by
  refine ⟨fun b o h n _ => a.x b o h n, a.f, fun t p hp => ?_⟩
  obtain ⟨ps, h1, h2, h3⟩ := t p hp
  refine ⟨ps, a.x _ _ h1 (fun _ z => nomatch z), h2, fun pos cv hc => ?_⟩
  obtain ⟨c, e1, e2⟩ := h3 pos cv hc
  exact ⟨c, e1, a.x _ _ e2 fun _ z => by unfold LamX.CodeO at z; cases z⟩
theorem Ft.same (s : Same H H') : Ft d Tt H H' := .fd (Fd.same s)
theorem Ft.lam (e : LamX.ExtN H H') (t : LamX.Tabs Tt H') : Ft d Tt H H' := ⟨fun b o h _ m => e b o h m, fun c ⟨ns, p, q, u, h1, h2, h3⟩ => ⟨ns, p, q, u, e _ _ h1 (fun _ z => nomatch z), e _ _ h2 (fun _ z => nomatch z), h3⟩, fun _ => t⟩
theorem Ft.lst {b : Addr} {l : List V} (r : Ft d Tt H H') (h : H b = some (.lst l)) : H' b = some (.lst l) := r.x _ _ h (fun _ z => nomatch z) fun _ z => nomatch z
theorem Ft.feed (h : Ft d Tt H H') (F : Feed H d) : Feed H' d := by
  obtain ⟨c, F⟩ := F
  exact ⟨c, h.f c F⟩
theorem Ft.tx (r : Ft d Tt H H') : TupX H H' := fun b xs h => h.elim (fun h => .inl (r.x _ _ h (fun _ z => nomatch z) fun _ z => nomatch z)) fun ⟨o, h⟩ => .inr ⟨o, r.x _ _ h (fun _ z => nomatch z) fun _ z => nomatch z⟩
end
/-! ### a call with a lambda -/
theorem pe_heardLam {X : Cx} {Tt : List (Addr × Str)} {c P : Addr} {k : Nat} {params : Arguments} {body : Expr} {scope : Scope} {t : XK → TE} {p lpos pos : Pos} (T : Tx X.K X.mg) (hg : Gl X "_law_heard") (TB : LamX.TabB X.base X.mg c P) (hcode : X.env.code = .ref c)
    (hmT : (P, X.env.qual ++ "<lambda>") ∈ Tt) (hu : ∀ p ∈ Tt, p.1 = P → p.2 = X.env.qual ++ "<lambda>") (hr : Room (k + 2) X.A) (L : LamX.LamS X.env.scope scope) (hdef : defaultsOf params X.env = ([], []))
    (hbind : ∀ (q : Str) (cl : List (Str × Addr)) (pm cv ctv : Value), bindArgs (PySem.W.kla_fn "<lambda>" q params body scope cl pm cv ctv) ⟨[], []⟩ = pure [])
    (hbody : ∀ (A : Around) (outer : List Env) (s : Shared) (H : Hp) (E : XK) (f c' : Addr), Room k (A.deeper (LamX.lamEnv X scope s.heap.objs.size f c')) → PE (LamX.lamCx X A outer s H E scope f c') body (t E)) :
    PE X (.Call (.Name "_law_heard" p) [.Lambda params body scope lpos] [] pos) (LamX.tLam Tt (TTh X.K) t) := by
  obtain ⟨fd, hm, F⟩ := T.fn 37 53 (x := "_law_heard") rfl
  have hB := F.bindsN (ps := ["_law_ask"]) fun _ _ _ _ _ _ us hl => match us, hl with | [_], _ => rfl
  obtain ⟨oc, od, dV, kV, doc, pm, an, cdv, ct, osl, rfl, lk, hcd, _, _⟩ := F.ex
  have sc : FnScope hdN ["_law_ask"] (defScope (topS 53)) := ⟨rfl, rfl, rfl, by decide +kernel, rfl, by decide +kernel, by decide +kernel⟩
  exact LamX.pe_lamcall (Ng := hdN) hg hm F.kp lk hcd hB sc rfl (.inl rfl) (heard_gives (k := k + 1) T hr) TB hcode hmT hu hr L hdef hbind hbody
theorem passLam {X : Cx} {A : Around} {outer : List Env} {s : Shared} {H : Hp} {E : XK} {scope : Scope} {f c' : Addr} : Passes (L2N.CX X.prog X.w) (LamX.lamCx X A outer s H E scope f c') E := passes_le (L2.passes_call (L2.takes_of rfl rfl rfl rfl) fun _ _ _ _ h => h)
theorem passLamL {X : Cx} {A : Around} {outer : List Env} {s : Shared} {H : Hp} {E : XK} {scope : Scope} {f c' : Addr} : Passes (L2.CX X.prog X.w) (LamX.lamCx X A outer s H E scope f c') E := L2.passes_call (L2.takes_of rfl rfl rfl rfl) fun _ _ _ _ h => h
def tabs (K : PySem.W.Frag) : List (Addr × Str) := [((He.cT K ("law", none)).2, "law.<locals>.<lambda>"), ((He.cT K ("_law_event_right", none)).2, "_law_event_right.<locals>.<lambda>")]
abbrev spEventRight (K : PySem.W.Frag) : Sp := Pr (fun d : Addr => [.ref d]) (fun d H => Feed H d ∧ LamX.Tabs (tabs K) H) (fun d H r H' => r = .bl true ∧ Ft d (tabs K) H H')
section
variable {K : PySem.W.Frag} {H : Hp} {σ : L2.St} {Q : VK} {d : Addr}
theorem heard_event {i : Nat} {y : Str} (hT : LamX.Tabs (tabs K) H) (hi : σ[i]? = some (some (.str y))) (hy : tOk y) (q : ∀ p H', Im K H' (.ref p) (dueE y) → Ft d (tabs K) H H' → Q (.ref p) H') :
    LamX.tLam (tabs K) (TTh K) (fun E => tFn (spReadEvent K) E (tCons (tVar i) tNil)) σ H Q := by
  refine ⟨hT, fun H1 e1 t1 => ⟨_, hi, y, rfl, hy.t, fun r H2 q2 => ⟨by rw [sizeLine_eq]; exact (by decide : 2 ≤ 16777216), fun p hp => ?_⟩, fun c dd H2 q2 => ?_⟩⟩
  · obtain ⟨h0, him, s2⟩ := q2
    have h0 : evSpot (wds y) = none := h0
    refine q p _ ?_ ((Ft.lam e1 t1).trans (Ft.same (Same.trans s2 (same_upd hp))))
    unfold dueE
    rw [h0]
    exact im_tup (.inl (.inl upd_same)) (ims_cons (im_str _) (ims_cons (im_mono (tupX_new hp) him) ims_nil))
  · obtain ⟨s, h0, s2, hx⟩ := q2
    have h0 : evSpot (wds y) = some s := h0
    refine ⟨0, (s : Nat), hx, fun p H3 hp s3 => q p _ ?_ ((Ft.lam e1 t1).trans (Ft.same (Same.trans s2 s3)))⟩
    unfold dueE
    rw [h0]
    exact im_tup hp (ims_cons (im_str _) (ims_cons (im_int _) (ims_cons (im_int _) ims_nil)))
theorem heard_log {i : Nat} {a : Addr} {ls : List Str} (hT : LamX.Tabs (tabs K) H) (hi : σ[i]? = some (some (.ref a))) (ha : H a = some (.lst (vS ls))) (hl : LnsOk ls) (hn : ls.length ≤ 100000) (q : ∀ p H', Im K H' (.ref p) (dueD ls) → Ft d (tabs K) H H' → Q (.ref p) H') :
    LamX.tLam (tabs K) (TTh K) (fun E => tFn (spReadLog K) E (tCons (tVar i) tNil)) σ H Q := by
  refine ⟨hT, fun H1 e1 t1 => ⟨_, hi, (a, ls), rfl, ⟨(Ft.lam (d := d) e1 t1).lst ha, hl, hn⟩, fun r H2 q2 => ⟨by rw [sizeLine_eq]; exact (by decide : 2 ≤ 16777216), fun p hp => ?_⟩, fun c dd H2 q2 => ?_⟩⟩
  · obtain ⟨h0, him, s2⟩ := q2
    have h0 : logF ls = none := h0
    refine q p _ ?_ ((Ft.lam e1 t1).trans (Ft.same (Same.trans s2 (same_upd hp))))
    unfold dueD
    rw [h0]
    exact im_tup (.inl (.inl upd_same)) (ims_cons (im_str _) (ims_cons (im_mono (tupX_new hp) him) ims_nil))
  · obtain ⟨s, h0, s2, hx⟩ := q2
    have h0 : logF ls = some s := h0
    refine ⟨(s.1 : Nat), (s.2 : Nat), hx, fun p H3 hp s3 => q p _ ?_ ((Ft.lam e1 t1).trans (Ft.same (Same.trans s2 s3)))⟩
    unfold dueD
    rw [h0]
    exact im_tup hp (ims_cons (im_str _) (ims_cons (im_int _) (ims_cons (im_int _) ims_nil)))
end
section
variable {w : World} {K : PySem.W.Frag} {mg : Str → Option Value} {base : Heap}
theorem ok_law_event_right (T : Tx K mg) (TB : LamX.TabB base mg (He.cT K ("_law_event_right", none)).1 (He.cT K ("_law_event_right", none)).2) : OkG pw w K mg base CX0 8 "_law_event_right" ["_law_feed_here"] (spEventRight K) := by
  have sc : FnScope ["_law_feed_here", "_law_line_here", "_law_once", "_law_k", "_law_texts", "_law_text", "_law_spot_here", "_law_due"] ["_law_feed_here"] (defScope (topS 66)) := ⟨rfl, rfl, rfl, by decide +kernel, rfl, by decide +kernel, by decide +kernel⟩
  refine okG T 50 66 rfl sc (fun _ _ _ _ _ _ us hl => match us, hl with | [_], _ => rfl) (fun vs H Q E ⟨_, e, _⟩ => by rw [e] <;> rfl) fun A outer s H vs Q E hg0 hr ⟨d, e, ⟨hF, hT⟩, hQ⟩ => ?_
  have e : vs = [V.ref d] := e
  subst e
  have hF : Feed H d := hF
  have hT : LamX.Tabs (tabs K) H := hT
  have hS : 200000 ≤ sizeLine := by rw [sizeLine_eq]; decide
  have hu61 := hu61_of hr
  have hgd : (A.deeper (envOfC "_law_event_right" (defScope (topS 66)) s.heap.objs.size (He.ga K "_law_event_right") (.ref (He.codeOf K ("_law_event_right", none))))).guards = some [] := hg0
  have hmT : ((He.cT K ("_law_event_right", none)).2, (envOfC "_law_event_right" (defScope (topS 66)) s.heap.objs.size (He.ga K "_law_event_right") (.ref (He.codeOf K ("_law_event_right", none)))).qual ++ "<lambda>") ∈ tabs K := by
    exact List.mem_cons_of_mem _ (List.mem_singleton.mpr rfl)
  have hu : ∀ p ∈ tabs K, p.1 = (He.cT K ("_law_event_right", none)).2 → p.2 = (envOfC "_law_event_right" (defScope (topS 66)) s.heap.objs.size (He.ga K "_law_event_right") (.ref (He.codeOf K ("_law_event_right", none)))).qual ++ "<lambda>" := by
    intro p hp e
    rcases List.mem_cons.mp hp with rfl | hp
    · exact absurd e T.ne
    · rw [List.mem_singleton.mp hp]
      rfl
  refine ⟨_, PSs.nox (pss_cons (ps_set (i := 1) sc.nd rfl (Or.inl rfl) (pe_fn (ok_law_any_event T) (hr.mono (by decide)) pass0 (pa_cons (pv 0) pa_nil)))
 (pss_cons (ps_set (i := 2) sc.nd rfl (Or.inl rfl) (pe_fn (ok_law_bent_line T) (hr.mono (by decide)) pass0 (pa_cons (pv 0) (pa_cons (pv 1) pa_nil))))
 (pss_cons (ps_par (i := 3) (j := 4) (by rfl) sc.nd rfl rfl (by decide) rfl rfl (pa_cons (pe_fn (ok_law_draw T) (hr.mono (by decide)) pass0 (pa_cons (pv 0) (pa_cons (pe_op op_add (pe_callB call_len rfl (T.bl (x := "len")) (by decide +kernel) (pa_cons (pv 2) pa_nil)) pe_int) pa_nil))) (pa_cons (pe_lst (pa_cons (pv 1) (pa_cons (pv 2) (pa_cons (pe_fn (ok_law_bent_line T) (hr.mono (by decide)) pass0 (pa_cons (pv 0) (pa_cons (pv 2) pa_nil))) (pa_cons (pe_op op_add_str (pv 1) pe_str) (pa_cons (pe_op op_add_str (pv 1) pe_str) pa_nil)))))) pa_nil)) (by rfl))
 (pss_cons (ps_for PassesOwn.never rfl (pi_list (pe_op op_cat (pv 4) (pe_lst (pa_cons (pe_op op_add_str (pe_op op_add_str (pe_slice sl_str (pv 2) po_none (po_some (pv 3))) pe_str) (pe_slice sl_str (pv 2) (po_some (pv 3)) po_none)) (pa_gain (pv 1) (pat_cons (CwR.pet_replC (pv 1)) pat_nil)))))) (pg_name (i := 5) sc.nd rfl (.inr rfl) (hf := .inl rfl)) (pss_cons (ps_set (i := 6) sc.nd rfl (Or.inl rfl) (pe_fn (ok_law_spot T) (hr.mono (by decide)) pass0 (pa_cons (pv 5) (pa_cons (pe_fn0 (ok_law_event_forms T) (hr.mono (by decide)) pass0) pa_nil))))
 (pss_cons (ps_set (i := 7) sc.nd rfl (Or.inl rfl) (pe_ifExp (pt_cmpR op_isN (pv 6) pe_non (nomark _)) (pe_tup (pa_cons pe_str (pa_cons (pe_fn (ok_law_event_of T) (hr.mono (by decide)) pass0 (pa_cons (pv 5) pa_nil)) pa_nil))) (pe_tup (pa_cons pe_str (pa_cons pe_int (pa_cons (pv 6) pa_nil))))))
 (pss_one (ps_if (pt_cmpR op_ne (pe_callB (call_reprD hgd hu61) rfl (T.bl (x := "repr")) (by decide +kernel) (pa_cons (pe_heardLam T rfl TB rfl hmT hu hr (show LamX.LamS (defScope (topS 66)) _ from LamX.lamS_by (by decide +kernel)) rfl (fun _ _ _ _ _ => rfl) (fun A outer s H E f c' hr2 => pe_fn (ok_read_event T) hr2 passLam (pa_cons (pv 5) pa_nil))) pa_nil)) (pe_callB (call_reprD hgd hu61) rfl (T.bl (x := "repr")) (by decide +kernel) (pa_cons (pv 7) pa_nil)) (nomark _)) (pss_one (ps_ret pe_bl)) pss_nil)))))
 (pss_one (ps_ret pe_bl)))))), ?_⟩
  refine ⟨_, rfl, d, rfl, hF, fun r1 H1 q1 => ?_⟩
  obtain ⟨⟨z, rfl, hz⟩, x1⟩ := q1
  have x1 : Fd d H H1 := x1
  refine ⟨_, rfl, _, rfl, (d, z, 5), rfl, ⟨x1.feed hF, hz, (by decide : 5 ≤ 100)⟩, fun r2 H2 q2 => ?_⟩
  obtain ⟨⟨o, rfl, ho⟩, x2⟩ := q2
  have x2 : Fd d H1 H2 := x2
  have ho : lOk 6 o := ho
  have y2 := x1.trans x2
  have hzl := hz.len
  have hol := ho.len
  refine ⟨_, rfl, _, rfl, _, _, rfl, ⟨by omega, rfl⟩, _, _, rfl, rfl, (d, o.length + 1), rfl, ⟨y2.feed hF, by show 1 ≤ o.length + 1; omega, by show o.length + 1 ≤ _; omega⟩, fun r3 H3 q3 => ?_⟩
  obtain ⟨⟨k, hk, rfl⟩, x3⟩ := q3
  have x3 : Fd d H2 H3 := x3
  have y3 := y2.trans x3
  refine ⟨_, rfl, _, rfl, _, rfl, _, rfl, (d, o, 6), rfl, ⟨y3.feed hF, ho, (by decide : 6 ≤ 100)⟩, fun r4 H4 q4 => ?_⟩
  obtain ⟨⟨b, rfl, hb⟩, x4⟩ := q4
  have hb : lOk 7 b := hb
  have x4 : Fd d H3 H4 := x4
  have y4 := y3.trans x4
  have h1n : Str.length "\n" = 1 := by decide +kernel
  have h1s : Str.length " " = 1 := by decide +kernel
  refine ⟨_, rfl, _, _, rfl, rfl, by rw [h1n]; omega, _, rfl, _, _, rfl, rfl, by rw [h1s]; omega, by show 5 ≤ _; omega, fun lt hlt => ⟨_, _, rfl, ?_⟩⟩
  have s5 := same_upd hlt (o := .lst (vS [z, o, b, z ++ "\n", z ++ " "]))
  have e5 := upd_same (H := H4) (a := lt) (o := .lst (vS [z, o, b, z ++ "\n", z ++ " "]))
  have c1 := cutS_length o none (some (k : Int))
  have c2 := cutS_length o (some (k : Int)) none
  have c12 : (cutS o none (some (k : Int)) ++ ("\n" : Str)).length = (cutS o none (some (k : Int))).length + 1 := by rw [len_app, h1n]
  refine ⟨_, rfl, _, rfl, _, rfl, _, rfl, o, rfl, by omega, _, _, rfl, rfl, by rw [h1n]; omega, _, rfl, _, rfl, _, rfl, o, rfl, by omega, _, _, rfl, rfl, by rw [c12]; omega, ?_⟩
  refine ⟨_, rfl, _, _, rfl, rfl, by rw [h1s]; omega, _, rfl, z, rfl, ?_, by show 3 ≤ _; omega, fun l2 hl2 => ?_⟩
  · have h2s : Str.length "  " = 2 := by decide +kernel
    rw [h2s]
    omega
  have s6 := same_upd hl2 (o := .lst (vS [cutS o none (some (k : Int)) ++ ("\n" : Str) ++ cutS o (some (k : Int)) none, (" " : Str) ++ z, Txt.replace z " " "  "]))
  refine ⟨lt, l2, vS [z, o, b, z ++ "\n", z ++ " "], _, rfl, rfl, s6 _ _ e5, upd_same, by show 8 ≤ _; omega, fun l3 hl3 => ?_⟩
  refine ⟨l3, rfl, ⟨_, SqL.of upd_same⟩, ?_⟩
  have s7 := same_upd hl3 (o := .lst (vS [z, o, b, z ++ "\n", z ++ " "] ++ vS [cutS o none (some (k : Int)) ++ ("\n" : Str) ++ cutS o (some (k : Int)) none, (" " : Str) ++ z, Txt.replace z " " "  "]))
  have y7 : Ft d (tabs K) H _ := Ft.fd (y4.trans (Fd.same ((s5.trans s6).trans s7)))
  have L : ∀ x ∈ vS [z, o, b, z ++ "\n", z ++ " "] ++ vS [cutS o none (some (k : Int)) ++ ("\n" : Str) ++ cutS o (some (k : Int)) none, (" " : Str) ++ z, Txt.replace z " " "  "], ∃ y, x = V.str y ∧ tOk y := by
    have cz : ∀ c ∈ tl z, c < 128 := fun c hc => (hz.sign c hc).1
    have co : ∀ c ∈ tl o, c < 128 := fun c hc => (ho.sign c hc).1
    have cn : ∀ c ∈ tl "\n", c < 128 := by decide +kernel
    have cs : ∀ c ∈ tl " ", c < 128 := by decide +kernel
    have k1 := tOk_app (a := cutS o none (some (k : Int))) (b := "\n") (fun c hc => co c (cutS_tl c hc)) cn (by rw [h1n]; omega)
    intro x hx
    rw [vS_app] at hx
    obtain ⟨y, hy, rfl⟩ := List.mem_map.mp hx
    refine ⟨y, rfl, ?_⟩
    simp only [List.cons_append, List.nil_append, List.mem_cons, List.not_mem_nil, or_false] at hy
    rcases hy with rfl | rfl | rfl | rfl | rfl | rfl | rfl | rfl
    · exact hz.tOk (by decide)
    · exact ho.tOk (by decide)
    · exact hb.tOk (by decide)
    · exact tOk_app cz cn (by rw [h1n]; omega)
    · exact tOk_app cz cs (by rw [h1s]; omega)
    · exact tOk_app k1.2 (fun c hc => co c (cutS_tl c hc)) (by rw [c12]; omega)
    · exact tOk_app cs cz (by rw [h1s]; omega)
    · exact repl_tOk (by omega) cz
  obtain ⟨xs, L, e7⟩ : ∃ xs : List V, (∀ x ∈ xs, ∃ y, x = V.str y ∧ tOk y) ∧ (upd (upd (upd H4 lt (.lst (vS [z, o, b, z ++ "\n", z ++ " "]))) l2 (.lst (vS [cutS o none (some (k : Int)) ++ ("\n" : Str) ++ cutS o (some (k : Int)) none, (" " : Str) ++ z, Txt.replace z " " "  "]))) l3 (.lst (vS [z, o, b, z ++ "\n", z ++ " "] ++ vS [cutS o none (some (k : Int)) ++ ("\n" : Str) ++ cutS o (some (k : Int)) none, (" " : Str) ++ z, Txt.replace z " " "  "]))) l3 = some (.lst xs) := ⟨_, L, upd_same⟩
  refine for_it (walk_list (K := K) (a := l3) (xs := xs)) (fun i σ' H' => (∃ u5 u6 u7, σ' = [some (V.ref d), some (V.str z), some (V.str o), some (V.int (k : Nat)), some (V.ref lt), u5, u6, u7]) ∧ H' l3 = some (.lst xs) ∧ Ft d (tabs K) H H')
    ⟨⟨_, _, _, rfl⟩, e7, y7⟩ (fun i σ' H' _ hP => SqL.of hP.2.1) (fun i x σ' H8' H8 hi hP hy => ?_) (fun σ' H' hP => ?_)
  · obtain ⟨⟨u5, u6, u7, rfl⟩, e8, y8⟩ := hP
    obtain ⟨rfl, hx⟩ := hy
    obtain ⟨y, rfl, hy⟩ := L x (List.mem_of_getElem? hx)
    refine ⟨_, rfl, (), rfl, trivial, fun r9 H9 q9 => ?_⟩
    obtain ⟨⟨fa, fvs, rfl, hfa, hfi⟩, s9⟩ := q9
    have s9 : Same H8 H9 := s9
    refine ⟨(fa, y, evForms), rfl, ⟨⟨fvs, hfa, hfi⟩, fm_ev (z := y) (by have := hy.1; omega) hy.s⟩, fun r10 H10 q10 => ?_⟩
    obtain ⟨rfl, s10⟩ := q10
    have s10 : Same H9 H10 := s10
    have f10 : Ft d (tabs K) H8 H10 := Ft.same (s9.trans s10)
    have hsp : spotL evForms (wds y) = evSpot (wds y) := ev_same _
    dsimp only [gName]
    refine seq_asg (fun v H' => (∃ p, v = .ref p ∧ Im K H' (.ref p) (dueE y)) ∧ Same H10 H') (fun Q' hQ' => ?_) ?_
    · refine ⟨_, rfl, rfl, _, rfl, ?_⟩
      cases hev : evSpot (wds y) with
      | none =>
        have hn : ovN (spotL evForms (wds y)) = V.non := by rw [hsp, hev] <;> rfl
        refine ite_t (by rw [hn]; rfl) ⟨_, rfl, y, rfl, ⟨by have := hy.1; show y.length ≤ _; omega, hev⟩, fun r11 H11 q11 => ?_⟩
        obtain ⟨him, s11⟩ := q11
        have s11 : Same H10 H11 := s11
        refine ⟨by show 2 ≤ _; omega, fun p hp => hQ' _ _ ⟨⟨p, rfl, ?_⟩, s11.trans (same_upd hp)⟩⟩
        unfold dueE
        rw [hev]
        exact im_tup (.inl (.inl upd_same)) (ims_cons (im_str _) (ims_cons (im_mono (tupX_new hp) him) ims_nil))
      | some sp =>
        have hn : ovN (spotL evForms (wds y)) = V.int (sp : Nat) := by rw [hsp, hev] <;> rfl
        refine ite_f (by rw [hn]; rfl) ⟨_, rfl, by show 3 ≤ _; omega, fun p hp => hQ' _ _ ⟨⟨p, rfl, ?_⟩, same_upd hp⟩⟩
        unfold dueE
        rw [hn, hev]
        exact im_tup (.inl (.inl upd_same)) (ims_cons (im_str _) (ims_cons (im_int _) (ims_cons (im_int _) ims_nil)))
    rintro _ H11 ⟨⟨p7, rfl, h7⟩, s11⟩
    have f11 := f10.trans (Ft.same (d := d) (Tt := tabs K) s11)
    have y11 := y8.trans f11
    have sm := sm_dueE hy.s hy.t.2
    refine heard_event (d := d) (y11.t hT) rfl hy fun p12 H12 h12 f12 => ?_
    have h12b := im_mono f12.tx h7
    refine ⟨p12, dueE y, rfl, h12.dp, sm.s, sm.n, Nat.le_trans sm.p (by decide), sm.fits (by decide), _, rfl, p7, dueE y, rfl, h12b.dp, sm.s, sm.n, Nat.le_trans sm.p (by decide), sm.fits (by decide), rfl, _, rfl, ite_f ?_ ?_⟩
    · simp
    · exact ⟨⟨_, _, _, rfl⟩, (f11.trans f12).lst e8, y11.trans f12⟩
  · obtain ⟨⟨u5, u6, u7, rfl⟩, e8, y8⟩ := hP
    exact hQ _ _ ⟨rfl, y8⟩
end
end Fl

-- KN4
/-! the law -/
namespace Fl
open PySem PySem.Spec PyProof.Rows L2 TL RZ
instance (z : Str) : Decidable (tOk z) := inferInstanceAs (Decidable (_ ∧ _))
instance (n : Nat) (z : Str) : Decidable (lOk n z) := decidable_of_iff ((wds z).length ≤ n ∧ ∀ y ∈ wds z, wOk y) ⟨fun h => ⟨h.1, h.2⟩, fun h => ⟨h.n, h.w⟩⟩
abbrev texts10 : List Str := ["", "\n",
  "came", "note",
  "came a 0 b",
  "came a 0 b 0 ",
  "guard on\n",
  "note a\nb",
  "guard", "-"]
theorem texts10_ok : ∀ y ∈ texts10, tOk y ∧ (evSpot (wds y)).isSome = true := by decide +kernel
theorem shaped_text (n i : Nat) : SeqAt.shaped (.tuple [.str "text", .int ((n : Nat) : Int), .int ((i : Nat) : Int)]) = true := by
  unfold SeqAt.shaped
  have h1 : PyData.strOk "text" = true := by decide +kernel
  simp [PyData.canLay0, PyData.canLayAll0, PyData.depth, PyData.depthAll, h1]
theorem due_ref {K : PySem.W.Frag} {H : Hp} {v : V} {ls : List Str} (h : Im K H v (dueD ls)) : ∃ a, v = .ref a := by
  have key : ∀ ds : List PyData, Dp K H v (.tuple ds) → ∃ a, v = .ref a := fun ds h => by
    cases h with
    | tup _ _ => exact ⟨_, rfl⟩
  have h := h.dp
  unfold dueD at h
  cases e : logF ls with
  | some p =>
    rw [e] at h
    exact key _ h
  | none =>
    rw [e] at h
    exact key _ h
theorem stv_x {K : PySem.W.Frag} {H H' : Hp} {r : V} {vs : List V} {ks : List Kd} {ask : Str} {ns : List Int} {load : Int} {g : Str} {net : Addr} (x : TupX H H') (h : StV K H r vs ks ask ns load g net) : StV K H' r vs ks ask ns load g net := by
  obtain ⟨⟨p, c, e, h1, h2⟩, h3, h4, h5, h6, h7, h8⟩ := h
  exact ⟨⟨p, c, e, sqT_tupX x h1, sqT_tupX x h2⟩, netv_x x h3, h4, h5, h6, h7, h8⟩
abbrev RH : List V → Prop := EL (lOk 8) 15
abbrev spLaw (K : PySem.W.Frag) : Sp := Pr (fun q : Addr × List Int => [.ref q.1]) (fun q H => SqL K H q.1 (q.2.map V.int) ∧ H (He.cT K ("law", none)).2 = some (.tbl #[]) ∧ H (He.cT K ("_law_event_right", none)).2 = some (.tbl #[])) (fun q H r H' => r = .bl true)
section
variable {d : Addr} {H0 : Hp} {σ : L2.St} {K : PySem.W.Frag}
theorem tp_live9 : TP d H0 σ (tOp rCS (tC (.str "live on 2 1 ")) (tOp (fun x y H Q => ∃ z n, x = .str z ∧ y = .int n ∧ MulOk z n ∧ Q (.str (Txt.mul z n)) H) (tC (.str "9")) (tC (.int 60)))) (lOk 8) := fun H Q x q =>
  ⟨"9", 60, rfl, rfl, mk_960, _, _, rfl, rfl, by rw [sizeLine_eq, show Str.length "live on 2 1 " + Str.length (Txt.mul "9" 60) = 72 by decide +kernel] <;> decide, q _ H (by decide +kernel) (Fd.refl d H)⟩
theorem rh_items : BR d H0 σ (tCons (tLst tNil) (tCons (tLst (tCons (tC (.str "")) tNil)) (tCons (tLst (tCons (tC (.str "live off 0 1 0")) tNil)) (tCons (tLst (tCons (tC (.str "live off 0 1 1")) (tCons (tC (.str "asker a")) tNil))) (tCons (tLst (tCons (tOp rCS (tC (.str "live on 2 1 ")) (tOp (fun x y H Q => ∃ z n, x = .str z ∧ y = .int n ∧ MulOk z n ∧ Q (.str (Txt.mul z n)) H) (tC (.str "9")) (tC (.int 60)))) (tCons (tC (.str "asker a")) tNil))) tNil))))) RH 5 :=
  br_cons (lp_le (lp_el (lp_lst ap_nil (by decide))) (by decide)) (br_cons (lp_le (lp_el (lp_lst (ap_cons (tp_c (by decide +kernel)) ap_nil) (by decide))) (by decide)) (br_cons (lp_le (lp_el (lp_lst (ap_cons (tp_c (by decide +kernel)) ap_nil) (by decide))) (by decide))
    (br_cons (lp_le (lp_el (lp_lst (ap_cons (tp_c (by decide +kernel)) (ap_cons (tp_c (by decide +kernel)) ap_nil)) (by decide))) (by decide)) (br_cons (lp_le (lp_el (lp_lst (ap_cons tp_live9 (ap_cons (tp_c (by decide +kernel)) ap_nil)) (by decide))) (by decide)) br_nil))))
theorem rh4 {a b c e : Str} (h : ∀ y ∈ [a, b, c, e], lOk 8 y) : RH (vS [a, b, c, e]) := ⟨[a, b, c, e], rfl, h, (by decide : 4 ≤ 15)⟩
theorem asg_br {t : TA} {u : TS} {D : Ends} {i n : Nat} {R : List V → Prop} (h : BR d H0 σ t R n) (hn : n ≤ 100000) (q : ∀ (vs : List V) (lh : Addr) (H' : Hp), Lsts H' R vs → vs.length = n → H' lh = none → Fd d H0 H' → u D (σ.set i (some (.ref lh))) (upd H' lh (.lst vs))) : tSeq (tAsg (tLst t) (gName i)) u D σ H0 :=
  h H0 _ (Fd.refl d H0) fun vs H1 hv hn' x1 => ⟨by rw [sizeLine_eq, hn']; exact Nat.le_trans hn (by decide), fun lh hlh => q vs lh H1 hv hn' hlh x1⟩
end
section
variable {w : World} {K : PySem.W.Frag} {mg : Str → Option Value} {base : Heap}
theorem ok_law (T : Tx K mg) (TB : LamX.TabB base mg (He.cT K ("law", none)).1 (He.cT K ("law", none)).2) (TB2 : LamX.TabB base mg (He.cT K ("_law_event_right", none)).1 (He.cT K ("_law_event_right", none)).2) : OkG pw w K mg base CX0 11 "law" ["_law_script"] (spLaw K) := by
  have sc : FnScope ["_law_script", "_law_feed_here", "_law_text", "_law_spot_here", "_law_hand", "_law_lines_here", "_law_lap", "_law_turn", "_law_late", "_law_bend", "_law_due", "_law_given"] ["_law_script"] (defScope (topS 67)) := ⟨rfl, rfl, rfl, by decide +kernel, rfl, by decide +kernel, by decide +kernel⟩
  refine okG T 51 67 rfl sc (fun _ _ _ _ _ _ us hl => match us, hl with | [_], _ => rfl) (fun vs H Q E ⟨_, e, _⟩ => by rw [e] <;> rfl) fun A outer s H vs Q E hg0 hr ⟨⟨sa, ns⟩, e, ⟨hsa, ht1, ht2⟩, hQ⟩ => ?_
  have e : vs = [V.ref sa] := e
  subst e
  have hS : 200000 ≤ sizeLine := by rw [sizeLine_eq]; decide
  have hu61 := hu61_of hr
  have hgd : (A.deeper (envOfC "law" (defScope (topS 67)) s.heap.objs.size (He.ga K "law") (.ref (He.codeOf K ("law", none))))).guards = some [] := hg0
  have hmT : ((He.cT K ("law", none)).2, (envOfC "law" (defScope (topS 67)) s.heap.objs.size (He.ga K "law") (.ref (He.codeOf K ("law", none)))).qual ++ "<lambda>") ∈ tabs K := List.mem_cons_self
  have hu : ∀ p ∈ tabs K, p.1 = (He.cT K ("law", none)).2 → p.2 = (envOfC "law" (defScope (topS 67)) s.heap.objs.size (He.ga K "law") (.ref (He.codeOf K ("law", none)))).qual ++ "<lambda>" := by
    intro p hp e
    rcases List.mem_cons.mp hp with rfl | hp
    · rfl
    · rw [List.mem_singleton.mp hp] at e
      exact absurd e.symm T.ne
  refine ⟨_, PSs.nox (pss_cons (ps_set (i := 1) sc.nd rfl (Or.inr rfl) (pe_fn (ok_law_feed T) (hr.mono (by decide)) pass0 (pa_cons (pv 0) pa_nil)))
 (pss_cons (ps_for PassesOwn.never rfl (pi_list (pe_lst (pa_cons pe_str (pa_cons pe_str (pa_cons pe_str (pa_cons pe_str (pa_cons pe_str (pa_cons pe_str (pa_cons pe_str (pa_cons pe_str (pa_cons pe_str (pa_cons pe_str pa_nil)))))))))))) (pg_name (i := 2) sc.nd rfl (.inr rfl) (hf := .inl rfl)) (pss_cons (ps_set (i := 3) sc.nd rfl (Or.inl rfl) (pe_fn (ok_law_spot T) (hr.mono (by decide)) pass0 (pa_cons (pv 2) (pa_cons (pe_fn0 (ok_law_event_forms T) (hr.mono (by decide)) pass0) pa_nil))))
 (pss_one (ps_if (PW.pt (pw_or (pt_cmpR op_isN (pv 3) pe_non (nomark _)) (pw_or1 (pt_cmpR (op_neD hr.units) (pe_heardLam (k := 5) T rfl TB rfl hmT hu (hr.mono (by decide)) (show LamX.LamS (defScope (topS 67)) _ from LamX.lamS_by (by decide +kernel)) rfl (fun _ _ _ _ _ => rfl) (fun A outer s H E f c' hr2 => pe_fn (ok_read_event T) hr2 passLam (pa_cons (pv 2) pa_nil))) (pe_tup (pa_cons pe_str (pa_cons pe_int (pa_cons (pv 3) pa_nil)))) (nomark _))))) (pss_one (ps_ret pe_bl)) pss_nil))))
 (pss_cons (ps_set (i := 4) sc.nd rfl (Or.inl rfl) (pe_lst (pa_cons (pe_lst pa_nil) (pa_cons (pe_lst (pa_cons pe_str pa_nil)) (pa_cons (pe_lst (pa_cons pe_str pa_nil)) (pa_cons (pe_lst (pa_cons pe_str (pa_cons pe_str pa_nil))) (pa_cons (pe_lst (pa_cons (pe_op op_add_str pe_str (pe_op op_mulS pe_str pe_int)) (pa_cons pe_str pa_nil))) pa_nil)))))))
 (pss_cons (ps_expr (pe_bm PySem.F.plainAttrs_list PySem.F.slot_list_append PySem.F.type_list_append mt_append (pv 4) (pa_cons (pe_lst (pa_cons pe_str (pa_cons pe_str (pa_cons pe_str (pa_cons pe_str pa_nil))))) pa_nil)))
 (pss_cons (ps_expr (pe_bm PySem.F.plainAttrs_list PySem.F.slot_list_append PySem.F.type_list_append mt_append (pv 4) (pa_cons (pe_lst (pa_cons pe_str (pa_cons pe_str (pa_cons pe_str (pa_cons pe_str pa_nil))))) pa_nil)))
 (pss_cons (ps_for PassesOwn.never rfl (pi_list (pv 4)) (pg_name (i := 5) sc.nd rfl (.inr rfl) (hf := .inl rfl)) (pss_one (ps_if (pt_cmpR op_ne (pe_callB (call_reprD hgd hu61) rfl (T.bl (x := "repr")) (by decide +kernel) (pa_cons (pe_heardLam (k := 8) T rfl TB rfl hmT hu (hr.mono (by decide)) (show LamX.LamS (defScope (topS 67)) _ from LamX.lamS_by (by decide +kernel)) rfl (fun _ _ _ _ _ => rfl) (fun A outer s H E f c' hr2 => pe_fn (ok_read_log T) hr2 passLamL (pa_cons (pv 5) pa_nil))) pa_nil)) (pe_callB (call_reprD hgd hu61) rfl (T.bl (x := "repr")) (by decide +kernel) (pa_cons (pe_fn (ok_law_log_due T) (hr.mono (by decide)) pass0 (pa_cons (pv 5) pa_nil)) pa_nil)) (nomark _)) (pss_one (ps_ret pe_bl)) pss_nil)))
 (pss_cons (ps_for PassesOwn.never rfl (pi_range1 rfl (T.bl (x := "range")) (pa_cons pe_int pa_nil)) (pg_name (i := 6) sc.nd rfl (.inl rfl) (hf := .inr rfl)) (pss_cons (ps_set (i := 5) sc.nd rfl (Or.inr rfl) (pe_op op_cat (pe_fn (ok_law_lines T) (hr.mono (by decide)) pass0 (pa_cons (pe_fn (ok_law_start T) (hr.mono (by decide)) pass0 (pa_cons (pv 1) (pa_cons pe_int pa_nil))) (pa_cons (pe_lst pa_nil) pa_nil))) (pe_lc (own := [("_law_turn", 7)]) (g := gName 7) (by rfl) sc.nd (pi_range1 rfl (T.bl (x := "range")) (pa_cons (pe_fn (ok_law_draw T) (hr.mono (by decide)) pass0 (pa_cons (pv 1) (pa_cons pe_int pa_nil))) pa_nil)) (blkOk_by (own := [("_law_turn", 7)]) (N := ["_law_script", "_law_feed_here", "_law_text", "_law_spot_here", "_law_hand", "_law_lines_here", "_law_lap", "_law_turn", "_law_late", "_law_bend", "_law_due", "_law_given"]) (sc := (defScope (topS 67))) (by decide +kernel)) (fun _ _ _ _ _ => (pg_name (i := 7) sc.nd rfl (.inl rfl) (hf := .inr rfl))) (fun _ _ _ _ _ => pts_nil) (fun _ _ _ _ _ => (pe_fn (ok_law_any_event T) (hr.mono (by decide)) pass0 (pa_cons (pv 1) pa_nil))))))
 (pss_cons (ps_for PassesOwn.never rfl (pi_range1 rfl (T.bl (x := "range")) (pa_cons pe_int pa_nil)) (pg_name (i := 7) sc.nd rfl (.inl rfl) (hf := .inr rfl)) (pss_cons (ps_set (i := 8) sc.nd rfl (Or.inl rfl) (pv 5))
 (pss_cons (ps_for PassesOwn.never rfl (pi_range1 rfl (T.bl (x := "range")) (pa_cons (pe_op op_add pe_int (pe_fn (ok_law_draw T) (hr.mono (by decide)) pass0 (pa_cons (pv 1) (pa_cons pe_int pa_nil)))) pa_nil)) (pg_name (i := 9) sc.nd rfl (.inl rfl) (hf := .inr rfl)) (pss_one (ps_set (i := 8) sc.nd rfl (Or.inl rfl) (pe_fn (ok_law_bent T) (hr.mono (by decide)) pass0 (pa_cons (pv 1) (pa_cons (pv 8) pa_nil))))))
 (pss_cons (ps_asg (pe_tup (pa_cons (pe_fn (ok_law_log_due T) (hr.mono (by decide)) pass0 (pa_cons (pv 8) pa_nil)) (pa_cons (pe_callTy call_list_of rfl (T.bl (x := "list")) (by decide +kernel) (pa_cons (pv 8) pa_nil)) pa_nil))) (pg_tup rfl (pgs_cons (pg_name (i := 10) sc.nd rfl (.inl rfl) (hf := .inr rfl)) (pgs_cons (pg_name (i := 11) sc.nd rfl (.inr rfl) (hf := .inl rfl)) pgs_nil))))
 (pss_one (ps_if (PW.pt (pw_or (pt_cmpR op_ne (pe_callB (call_reprD hgd hu61) rfl (T.bl (x := "repr")) (by decide +kernel) (pa_cons (pe_heardLam (k := 8) T rfl TB rfl hmT hu (hr.mono (by decide)) (show LamX.LamS (defScope (topS 67)) _ from LamX.lamS_by (by decide +kernel)) rfl (fun _ _ _ _ _ => rfl) (fun A outer s H E f c' hr2 => pe_fn (ok_read_log T) hr2 passLamL (pa_cons (pv 11) pa_nil))) pa_nil)) (pe_callB (call_reprD hgd hu61) rfl (T.bl (x := "repr")) (by decide +kernel) (pa_cons (pv 10) pa_nil)) (nomark _)) (pw_or1 (pt_cmpR (op_neD hr.units) (pv 11) (pv 8) (nomark _))))) (pss_one (ps_ret pe_bl)) pss_nil))))))
 (pss_one (ps_if (pt_not (pt_val (pe_fnG (ok_law_event_right T TB2) hgd (hr.mono (by decide)) pass0 (pa_cons (pv 1) pa_nil)))) (pss_one (ps_ret pe_bl)) pss_nil)))))
 (pss_one (ps_ret pe_bl))))))))), ?_⟩
  have hT0 : LamX.Tabs (tabs K) H := fun p hp => by
    rcases List.mem_cons.mp hp with rfl | hp
    · exact .nil ht1
    · rw [List.mem_singleton.mp hp]
      exact .nil ht2
  -- the feed
  refine ⟨_, rfl, (sa, ns), rfl, hsa, fun r1 H1 q1 => ?_⟩
  obtain ⟨⟨d, rfl, hF⟩, s1⟩ := q1
  have s1 : Same H H1 := s1
  have hT : LamX.Tabs (tabs K) H1 := (Ft.same (d := d) s1).t hT0
  -- ten texts
  refine ⟨by show 10 ≤ _; omega, fun la hla => ⟨la, rfl, ⟨_, SqL.of upd_same⟩, ?_⟩⟩
  have y2 : Ft d (tabs K) H1 (upd H1 la (.lst (vS texts10))) := Ft.same (same_upd hla)
  refine for_it (walk_list (K := K) (a := la) (xs := vS texts10)) (fun i σ' H' => (∃ u2 u3, σ' = [some (V.ref sa), some (V.ref d), u2, u3, none, none, none, none, none, none, none, none]) ∧ H' la = some (.lst (vS texts10)) ∧ Ft d (tabs K) H1 H')
    ⟨⟨_, _, rfl⟩, upd_same, y2⟩ (fun i σ' H' _ hP => SqL.of hP.2.1) (fun i x σ' H3' H3 hi hP hy => ?_) (fun σ' H3 hP => ?_)
  · obtain ⟨⟨u2, u3, rfl⟩, e3, y3⟩ := hP
    obtain ⟨rfl, hx⟩ := hy
    obtain ⟨y, hy, rfl⟩ := List.mem_map.mp (List.mem_of_getElem? hx)
    obtain ⟨hy, hsome⟩ := texts10_ok y hy
    refine ⟨_, rfl, (), rfl, trivial, fun r4 H4 q4 => ?_⟩
    obtain ⟨⟨fa, fvs, rfl, hfa, hfi⟩, s4⟩ := q4
    have s4 : Same H3 H4 := s4
    refine ⟨(fa, y, evForms), rfl, ⟨⟨fvs, hfa, hfi⟩, fm_ev (z := y) (by have := hy.1; omega) hy.s⟩, fun r5 H5 q5 => ?_⟩
    obtain ⟨rfl, s5⟩ := q5
    have s5 : Same H4 H5 := s5
    have y5 := y3.trans (Ft.same (d := d) (Tt := tabs K) (s4.trans s5))
    obtain ⟨sp, hsp⟩ := Option.isSome_iff_exists.mp hsome
    have e5 : spotL evForms (wds y) = some sp := by rw [ev_same, hsp]
    have hn : ovN (spotL evForms (wds y)) = V.int (sp : Nat) := by rw [e5] <;> rfl
    have hdue : dueE y = .tuple [.str "text", .int ((0 : Nat) : Int), .int ((sp : Nat) : Int)] := by
      unfold dueE
      rw [hsp] <;> rfl
    dsimp only [gName]
    rw [hn]
    refine ⟨_, rfl, rfl, _, rfl, ite_f rfl ?_⟩
    refine heard_event (d := d) (y5.t hT) rfl hy fun p6 H6 h6 f6 => ?_
    rw [hdue] at h6
    refine ⟨_, rfl, by show 3 ≤ _; omega, fun p7 hp7 => ?_⟩
    have f7 := f6.trans (Ft.same (d := d) (Tt := tabs K) (same_upd hp7 (o := .tup [V.str "text", V.int 0, V.int (sp : Nat)])))
    refine ⟨_, _, (im_mono (tupX_new hp7) h6).dp, .tup (.inl (.inl upd_same)) (.cons (.str _) (.cons (.int _) (.cons (.int _) .nil))), shaped_text _ _, shaped_text 0 sp, _, rfl, ite_f ?_ ?_⟩
    · exact congrArg not (SeqAt.eqv_refl _ (SeqAt.canLay_of_shaped (shaped_text 0 sp)))
    · exact ⟨⟨_, _, rfl⟩, ((Ft.same (d := d) (Tt := tabs K) (s4.trans s5)).trans f7).lst e3, y5.trans f7⟩
  · obtain ⟨⟨u2, u3, rfl⟩, _, y3⟩ := hP
    dsimp only
    -- the lists by hand
    refine asg_br (d := d) rh_items (by decide) fun vs5 lh H4 hv4 hn4 hl4 x4 => ?_
    have e5 := upd_same (H := H4) (a := lh) (o := .lst vs5)
    refine ⟨_, rfl, .inl ⟨rfl, _, SqL.of e5⟩, by show 4 ≤ _; omega, fun p6 hp6 => ?_⟩
    have n6 := fresh_ne e5 hp6
    have s6 := same_upd hp6 (o := .lst [V.str "live on 2 1,2 2", V.str "kind a 1 not -", V.str "asker b", V.str ""])
    refine ⟨lh, vs5, _, rfl, rfl, s6 _ _ e5, by omega, ?_⟩
    have z6 : Fd d H4 (upd (upd (upd H4 lh (.lst vs5)) p6 (.lst [V.str "live on 2 1,2 2", V.str "kind a 1 not -", V.str "asker b", V.str ""])) lh (.lst (vs5 ++ [.ref p6]))) := ((Fd.same (same_upd hl4)).trans (Fd.same s6)).new hl4
    have g6 : (upd (upd (upd H4 lh (.lst vs5)) p6 (.lst [V.str "live on 2 1,2 2", V.str "kind a 1 not -", V.str "asker b", V.str ""])) lh (.lst (vs5 ++ [.ref p6]))) p6 = some (.lst [V.str "live on 2 1,2 2", V.str "kind a 1 not -", V.str "asker b", V.str ""]) := by
      rw [upd_ne n6]
      exact upd_same
    have e6 : (upd (upd (upd H4 lh (.lst vs5)) p6 (.lst [V.str "live on 2 1,2 2", V.str "kind a 1 not -", V.str "asker b", V.str ""])) lh (.lst (vs5 ++ [.ref p6]))) lh = some (.lst (vs5 ++ [.ref p6])) := upd_same
    obtain ⟨H6, hH6⟩ : ∃ H6, H6 = upd (upd (upd H4 lh (.lst vs5)) p6 (.lst [V.str "live on 2 1,2 2", V.str "kind a 1 not -", V.str "asker b", V.str ""])) lh (.lst (vs5 ++ [.ref p6])) := ⟨_, rfl⟩
    dsimp only
    rw [← hH6] at z6 g6 e6 ⊢
    refine ⟨_, rfl, .inl ⟨rfl, _, SqL.of e6⟩, by show 4 ≤ _; omega, fun p7 hp7 => ?_⟩
    have n7 := fresh_ne e6 hp7
    have s7 := same_upd hp7 (o := .lst [V.str "live on 2 1 2", V.str "kind a 1 not a,b", V.str "kind a 2 has -", V.str "note a"])
    refine ⟨lh, vs5 ++ [.ref p6], _, rfl, rfl, s7 _ _ e6, by rw [List.length_append, List.length_singleton]; omega, ?_⟩
    have z8 : Fd d H4 (upd (upd H6 p7 (.lst [V.str "live on 2 1 2", V.str "kind a 1 not a,b", V.str "kind a 2 has -", V.str "note a"])) lh (.lst ((vs5 ++ [.ref p6]) ++ [.ref p7]))) := (z6.trans (Fd.same s7)).new hl4
    have e8 : (upd (upd H6 p7 (.lst [V.str "live on 2 1 2", V.str "kind a 1 not a,b", V.str "kind a 2 has -", V.str "note a"])) lh (.lst ((vs5 ++ [.ref p6]) ++ [.ref p7]))) lh = some (.lst ((vs5 ++ [.ref p6]) ++ [.ref p7])) := upd_same
    have L8 : Lsts (upd (upd H6 p7 (.lst [V.str "live on 2 1 2", V.str "kind a 1 not a,b", V.str "kind a 2 has -", V.str "note a"])) lh (.lst ((vs5 ++ [.ref p6]) ++ [.ref p7]))) RH ((vs5 ++ [.ref p6]) ++ [.ref p7]) := fun v hv => by
      rcases List.mem_append.mp hv with hv | hv
      · rcases List.mem_append.mp hv with hv | hv
        · exact lsts_fd z8 hv4 v hv
        · rw [List.mem_singleton.mp hv]
          exact ⟨p6, _, rfl, by rw [upd_ne n6]; exact s7 _ _ g6, rh4 (by decide +kernel)⟩
      · rw [List.mem_singleton.mp hv]
        exact ⟨p7, _, rfl, by rw [upd_ne n7]; exact upd_same, rh4 (by decide +kernel)⟩
    have y8 : Ft d (tabs K) H1 _ := y3.trans ((Ft.fd (Tt := tabs K) x4).trans (Ft.fd z8))
    obtain ⟨H8, L, hH8, e8, L8, y8⟩ : ∃ (H8 : Hp) (L : List V), H8 = (upd (upd H6 p7 (.lst [V.str "live on 2 1 2", V.str "kind a 1 not a,b", V.str "kind a 2 has -", V.str "note a"])) lh (.lst ((vs5 ++ [.ref p6]) ++ [.ref p7]))) ∧ H8 lh = some (.lst L) ∧ Lsts H8 RH L ∧ Ft d (tabs K) H1 H8 := ⟨_, _, rfl, e8, L8, y8⟩
    dsimp only
    rw [← hH8]
    clear z8 s7 s6 z6 g6 e6 e5 hH6 hv4 x4 y2 y3 hH8
    refine ⟨_, rfl, lh, rfl, ⟨_, SqL.of e8⟩, ?_⟩
    refine for_it (walk_list (K := K) (a := lh) (xs := L)) (fun i σ' H' => (∃ u5, σ' = [some (V.ref sa), some (V.ref d), u2, u3, some (V.ref lh), u5, none, none, none, none, none, none]) ∧ Ft d (tabs K) H8 H')
      ⟨⟨_, rfl⟩, Ft.refl _ _ _⟩ (fun i σ' H' _ hP => SqL.of (hP.2.lst e8)) (fun i x σ' H9' H9 hi hP hy => ?_) (fun σ' H9 hP => ?_)
    · obtain ⟨⟨u5, rfl⟩, y9⟩ := hP
      obtain ⟨rfl, hx⟩ := hy
      obtain ⟨pl, l, rfl, hpl, ls, rfl, hls, hln⟩ := L8 x (List.mem_of_getElem? hx)
      have lw := lw_of hls (by decide) (by omega)
      have sm := sm_dueD hls hln
      have y19 := y8.trans y9
      refine heard_log (d := d) (y19.t hT) rfl (y9.lst hpl) lw.lns (by omega) fun p10 H10 h10 f10 => ?_
      refine ⟨p10, dueD ls, rfl, h10.dp, sm.s, sm.n, Nat.le_trans sm.p (by decide), sm.fits (by decide), _, rfl, (pl, ls), rfl, ⟨(y9.trans f10).lst hpl, lw⟩, fun r H11 q11 => ?_⟩
      obtain ⟨h11, s11⟩ := q11
      have s11 : Same H10 H11 := s11
      obtain ⟨a11, rfl⟩ := due_ref h11
      refine ⟨a11, dueD ls, rfl, h11.dp, sm.s, sm.n, Nat.le_trans sm.p (by decide), sm.fits (by decide), rfl, _, rfl, ite_f ?_ ?_⟩
      · simp
      · exact ⟨⟨_, rfl⟩, (y9.trans f10).trans (Ft.same s11)⟩
    · obtain ⟨⟨u5, rfl⟩, y9⟩ := hP
      have y19 := y8.trans y9
      clear e8 L8 y8 y9
      dsimp only
      refine ⟨(2 : Int), rfl, by decide, by decide, ?_⟩
      refine for_it (walk_range (lo := 0) (n := 2)) (fun i σ' H' => (∃ u5 u6 u7 u8 u9 u10 u11, σ' = [some (V.ref sa), some (V.ref d), u2, u3, some (V.ref lh), u5, u6, u7, u8, u9, u10, u11]) ∧ Ft d (tabs K) H1 H')
        ⟨⟨_, _, _, _, _, _, _, rfl⟩, y19⟩ (fun _ _ _ _ _ => trivial) (fun i x σ' H11' H11 hi hP hy => ?_) (fun σ' H11 hP => ?_)
      · obtain ⟨⟨u5, u6, u7, u8, u9, u10, u11, rfl⟩, y11⟩ := hP
        obtain ⟨rfl, rfl⟩ := hy
        have hF11 := y11.feed hF
        have h1 : ∀ ss : L2.St, ss[1]? = some (some (V.ref d)) → LP d H11 ss (tFn (spLines K) E0 (tCons (tFn (spStart K) E0 (tCons (tVar 1) (tCons (tC (.int 3)) tNil))) (tCons (tLst tNil) tNil))) (EL (lOk 5) 6) := fun ss h1 H Q x q =>
          ⟨_, h1, d, rfl, x.feed hF11, fun r H' q' => by
            obtain ⟨⟨vs0, ks, ask, ns, load, g, net, hst⟩, x'⟩ := q'
            have x' : Fd d H H' := x'
            refine ⟨Nat.zero_le _, fun p hp => ⟨(r, p, d, vs0, ks, ask, ns, load, g, net), rfl, ⟨stv_x (tupX_new hp) hst, upd_same⟩, fun r2 H2 q2 => ?_⟩⟩
            obtain ⟨⟨p2, l, rfl, h, hE⟩, x2⟩ := q2
            exact q p2 l H2 hE h (x'.trans ((Fd.same (same_upd hp)).trans x2))⟩
        have h2 : ∀ (ss : L2.St) (vs : List Nat), ss[1]? = some (some (V.ref d)) → (∀ x, ((wipe ss vs).set 7 (some x))[1]? = some (some (V.ref d))) → (∀ x, wipe ((wipe ss vs).set 7 (some x)) vs = wipe ss vs) → LP d H11 ss (tLc (iRng1 (tCons (tFn spDraw E0 (tCons (tVar 1) (tCons (tC (.int 6)) tNil))) tNil)) (gName 7) tYes (tFn spAnyEvent E0 (tCons (tVar 1) tNil)) vs) (EL (lOk 5) 5) := fun ss vs h1 h2 h3 =>
          lp_lcR (fun H Q x q => ⟨_, h1, (d, 6), rfl, ⟨x.feed hF11, (by decide : 1 ≤ 6), (by decide : 6 ≤ 100000)⟩, fun r H' q' => by
            obtain ⟨⟨k, hk, rfl⟩, x'⟩ := q'
            have hk : k < 6 := hk
            exact q k H' (by omega) x'⟩) (by decide) h3 fun x H Q xx q => ⟨_, h2 x, d, rfl, xx.feed hF11, fun r H' q' => by
            obtain ⟨⟨z, rfl, hz⟩, x'⟩ := q'
            exact q z H' hz x'⟩
        dsimp only [gName]
        refine asg_lp (d := d) (R := EL (lOk 5) 11) (lp_cat (h1 _ rfl) (h2 _ _ rfl (fun _ => rfl) (fun _ => rfl)) (by decide)) fun pl l H12 r12 hpl x12 => ?_
        obtain ⟨ls, rfl, hls, hln⟩ := r12
        have y12 := y11.trans (Ft.fd (Tt := tabs K) x12)
        refine seq_cut (t := tFor _ _ _) (fun σ' H' => (∃ u5 u6 u7 u8 u9 u10 u11, σ' = [some (V.ref sa), some (V.ref d), u2, u3, some (V.ref lh), u5, u6, u7, u8, u9, u10, u11]) ∧ Ft d (tabs K) H1 H') (fun nx' hnx => ?_) ?_
        · refine ⟨(5 : Int), rfl, by decide, by decide, ?_⟩
          refine for_it (walk_range (lo := 0) (n := 5)) (fun i σ' H' => (∃ u6 u7 u8 u9 u10 u11, σ' = [some (V.ref sa), some (V.ref d), u2, u3, some (V.ref lh), some (V.ref pl), u6, u7, u8, u9, u10, u11]) ∧ H' pl = some (.lst (vS ls)) ∧ Ft d (tabs K) H1 H')
            ⟨⟨_, _, _, _, _, _, rfl⟩, hpl, y12⟩ (fun _ _ _ _ _ => trivial) (fun j x σ' H13' H13 hj hP hy => ?_) (fun σ' H13 hP => ?_)
          · obtain ⟨⟨u6, u7, u8, u9, u10, u11, rfl⟩, hpl, y13⟩ := hP
            obtain ⟨rfl, rfl⟩ := hy
            have hF13 := y13.feed hF
            refine ⟨_, rfl, ?_⟩
            dsimp only [gName]
            refine seq_cut (t := tFor _ _ _) (fun σ' H' => (∃ (q : Addr) (ms : List Str) (u7 u9 : Option V), σ' = [some (V.ref sa), some (V.ref d), u2, u3, some (V.ref lh), some (V.ref pl), u6, u7, some (V.ref q), u9, u10, u11] ∧ H' q = some (.lst (vS ms)) ∧ (∀ y ∈ ms, lOk 8 y) ∧ ms.length ≤ 14) ∧ Ft d (tabs K) H13 H') (fun nx2 hnx2 => ?_) ?_
            · refine ⟨_, rfl, (d, 3), rfl, ⟨hF13, (by decide : 1 ≤ 3), (by decide : 3 ≤ 100000)⟩, fun r14 H14 q14 => ?_⟩
              obtain ⟨⟨k, hk, rfl⟩, x14⟩ := q14
              have hk : k < 3 := hk
              have x14 : Fd d H13 H14 := x14
              refine ⟨_, _, rfl, rfl, 1 + ((k : Nat) : Int), rfl, by omega, by omega, ?_⟩
              obtain ⟨m, hm⟩ : ∃ m, m = (1 + ((k : Nat) : Int)).toNat := ⟨_, rfl⟩
              rw [← hm]
              refine for_it (walk_range (lo := 0) (n := m)) (fun i σ' H' => (∃ (q : Addr) (ms : List Str) (u7 u9 : Option V), σ' = [some (V.ref sa), some (V.ref d), u2, u3, some (V.ref lh), some (V.ref pl), u6, u7, some (V.ref q), u9, u10, u11] ∧ H' q = some (.lst (vS ms)) ∧ (∀ y ∈ ms, lOk (5 + i) y) ∧ ms.length ≤ 11 + i) ∧ Fd d H13 H')
                ⟨⟨pl, ls, _, _, rfl, x14.lst hpl, hls, hln⟩, x14⟩ (fun _ _ _ _ _ => trivial) (fun b x σ' H15' H15 hb hP hy => ?_) (fun σ' H15 hP => ?_)
              · obtain ⟨⟨q, ms, u7, u9, rfl, hq, hms, hml⟩, x15⟩ := hP
                obtain ⟨rfl, rfl⟩ := hy
                refine ⟨_, rfl, _, rfl, (d, q, ms, 5 + b), rfl, ⟨x15.feed hF13, hq, hms, by show 4 ≤ 5 + b; omega, by show 5 + b ≤ 100; omega, by show ms.length ≤ 1000; omega⟩, fun r16 H16 q16 => ?_⟩
                obtain ⟨⟨q2, ms2, rfl, hq2, hms2, hml2⟩, x16⟩ := q16
                have x16 : Fd d H15 H16 := x16
                have hml2 : ms2.length ≤ ms.length + 1 := hml2
                exact ⟨⟨q2, ms2, _, _, rfl, hq2, hms2, by omega⟩, x15.trans x16⟩
              · obtain ⟨⟨q, ms, u7, u9, rfl, hq, hms, hml⟩, x15⟩ := hP
                exact hnx2 _ _ ⟨⟨q, ms, _, _, rfl, hq, fun y hy => (hms y hy).mono (by omega), by omega⟩, Ft.fd x15⟩
            rintro _ H17 ⟨⟨q, ms, u7, u9, rfl, hq, hms, hml⟩, y17⟩
            have lw := lw_of hms (by decide) (by omega)
            have sm := sm_dueD hms (by omega)
            have y117 := y13.trans y17
            refine ⟨_, rfl, (q, ms), rfl, ⟨hq, lw⟩, fun r18 H18 q18 => ?_⟩
            obtain ⟨h18, s18⟩ := q18
            have s18 : Same H17 H18 := s18
            obtain ⟨a18, rfl⟩ := due_ref h18
            refine ⟨_, rfl, q, vS ms, rfl, .inl (SqL.of (s18 _ _ hq)), fun lg hlg => ⟨by show 2 ≤ _; omega, fun pt hpt => ⟨pt, _, rfl, .inl (.inl upd_same), rfl, _, _, rfl, _, _, rfl, rfl, ?_⟩⟩⟩
            have s19 := (same_upd hlg (o := .lst (vS ms))).trans (same_upd hpt (o := .tup [V.ref a18, V.ref lg]))
            have y19 := y17.trans (Ft.same (d := d) (Tt := tabs K) (s18.trans s19))
            have elg := same_upd hpt (o := .tup [V.ref a18, V.ref lg]) _ _ (upd_same (H := H18) (a := lg) (o := .lst (vS ms)))
            have h19 := im_mono (tupX_same s19) h18
            refine heard_log (d := d) ((y13.trans y19).t hT) rfl elg lw.lns (by omega) fun p20 H20 h20 f20 => ?_
            have h20b := im_mono f20.tx h19
            refine ⟨p20, dueD ms, rfl, h20.dp, sm.s, sm.n, Nat.le_trans sm.p (by decide), sm.fits (by decide), _, rfl, a18, dueD ms, rfl, h20b.dp, sm.s, sm.n, Nat.le_trans sm.p (by decide), sm.fits (by decide), rfl, _, rfl, ite_f (by simp) ?_⟩
            have sh := shaped_texts (ss := ms) fun y hy => (hms y hy).sok
            refine ⟨_, rfl, _, rfl, .list (ms.map .str), .list (ms.map .str), dp_list (SqL.of (f20.lst elg)), dp_list (SqL.of (f20.lst ((same_upd hpt) _ _ ((same_upd hlg) _ _ (s18 _ _ hq))))), sh, sh, _, rfl, ite_f (congrArg not (SeqAt.eqv_refl _ (SeqAt.canLay_of_shaped sh))) ?_⟩
            exact ⟨⟨_, _, _, _, _, _, rfl⟩, (y19.trans f20).lst hpl, y13.trans (y19.trans f20)⟩
          · obtain ⟨⟨u6, u7, u8, u9, u10, u11, rfl⟩, hpl, y13⟩ := hP
            exact hnx _ _ ⟨⟨_, _, _, _, _, _, _, rfl⟩, y13⟩
        rintro _ H21 ⟨⟨u5, u6, u7, u8, u9, u10, u11, rfl⟩, y21⟩
        refine ⟨_, rfl, d, rfl, ⟨y21.feed hF, y21.t hT⟩, fun r22 H22 q22 => ?_⟩
        obtain ⟨rfl, f22⟩ := q22
        have f22 : Ft d (tabs K) H21 H22 := f22
        refine ⟨true, rfl, ite_f rfl ⟨⟨_, _, _, _, _, _, _, rfl⟩, y21.trans f22⟩⟩
      · exact hQ _ _ rfl
end
end Fl

-- KN5
/-! from the walk to the call of the law at the end of the top -/
namespace Fl
open PySem PySem.Spec PyProof.Rows L2
abbrev pA (K : PySem.W.Frag) : Addr := (He.cT K ("law", none)).2
abbrev pB (K : PySem.W.Frag) : Addr := (He.cT K ("_law_event_right", none)).2
/-- what is tracked at the call: the two code tables, and the script if K does not hold it -/
def HZ (K : PySem.W.Frag) (a : Addr) (z : HO) : Hp := fun b => if b = pA K ∨ b = pB K then some (.tbl #[]) else if b = a ∧ (K.lookup a).isNone = true then some z else none
section
variable {K : PySem.W.Frag} {a : Addr} {z : HO}
theorem hz_inv {b : Addr} {u : HO} (h : HZ K a z b = some u) : ((b = pA K ∨ b = pB K) ∧ u = .tbl #[]) ∨ (b = a ∧ K.lookup a = none ∧ u = z) := by
  unfold HZ at h
  by_cases h1 : b = pA K ∨ b = pB K
  · rw [if_pos h1] at h
    exact .inl ⟨h1, (Option.some.inj h).symm⟩
  · rw [if_neg h1] at h
    by_cases h2 : b = a ∧ (K.lookup a).isNone = true
    · rw [if_pos h2] at h
      exact .inr ⟨h2.1, Option.isNone_iff_eq_none.mp h2.2, (Option.some.inj h).symm⟩
    · rw [if_neg h2] at h
      cases h
theorem hz_tab {b : Addr} (h : b = pA K ∨ b = pB K) : HZ K a z b = some (.tbl #[]) := if_pos h
theorem hz_list (h1 : a ≠ pA K) (h2 : a ≠ pB K) (h : K.lookup a = none) : HZ K a z a = some z := by
  unfold HZ
  rw [if_neg fun e => e.elim h1 h2, if_pos ⟨rfl, Option.isNone_iff_eq_none.mpr h⟩]
end
/-- the head's facts at the call -/
structure AtCall (w : World) (K : PySem.W.Frag) (mg mb : Str → Option Value) (s : Shared) : Prop where
  k : K.In s.heap
  says : SaysY w s.heap K
  g : s.heap.Ns mainGlobals mg
  b : s.heap.Ns builtinsNs mb
  blt : ∀ x : Str, x ≠ "__name__" → mb x = bootBuiltins x
  lim : s.heap.NoLimit
  gens : s.gens = #[]
  bm : ∃ (bm : Addr) (ob : Obj), mg "__builtins__" = some (.ref bm) ∧ bm ≠ builtinsNs ∧ s.heap.get? bm = some ob ∧ ob.cls = .type "module" ∧ ob.dict = some builtinsNs ∧ ob.data = .plain
section
variable {w : World} {K : PySem.W.Frag} {mg mb : Str → Option Value} {s : Shared}
theorem AtCall.tab (c : AtCall w K mg mb s) {P : Addr} (h : P = pA K ∨ P = pB K) : s.heap.get? P = some { cls := .none, data := .fields #[] } ∧ K.lookup P = none ∧ ∃ cd, PySem.W.codeHdIn K cd P = true := by
  rcases h with rfl | rfl
  · have m : (("law", none) : He.Defn) ∈ tfL := List.mem_cons_self
    exact ⟨c.says.empty _ m, c.says.out _ m, _, c.says.hd _ m⟩
  · have m : (("_law_event_right", none) : He.Defn) ∈ tfL := List.mem_cons_of_mem _ (List.mem_singleton.mpr rfl)
    exact ⟨c.says.empty _ m, c.says.out _ m, _, c.says.hd _ m⟩
theorem law_goes {a fa : Addr} {vs : List Value} {ns : List Int} (c : AtCall w K mg mb s) (hm : mg "law" = some (.ref fa)) (ha : s.heap.get? a = some { cls := .type "list", data := .seq vs.toArray }) (hi : IntsAre vs ns) (hl : ns.length ≤ sizeLine) :
    codeAny (model pw w) callerA (.call (.ref fa) ⟨[.ref a], []⟩) (fun r t => r = .ok (.ret (.bool true)) ∧ OldK s.heap t.heap ∧ t.os = s.os ∧ AllBare t.gens) s := by
  have T : Tx K mg := tx_of c.k c.g c.says
  have rel := vals_ints hi
  have hlen := hi.length
  obtain ⟨z, hzd⟩ : ∃ z : HO, z = .frz { cls := .type "list", data := .seq vs.toArray } (.lst (ns.map V.int)) := ⟨_, rfl⟩
  have apart : ∀ P, P = pA K ∨ P = pB K → a ≠ P := fun P hP e => by
    have q := (c.tab hP).1
    rw [← e, ha] at q
    cases congrArg Obj.data (Option.some.inj q)
  -- an object that is no list and no table is not tracked
  have loose : ∀ {b : Addr} {o : Obj}, s.heap.get? b = some o → (∀ x n, o.data ≠ .seq x n) → o.data ≠ .fields #[] → HZ K a z b = none := fun {b o} e n1 n2 => by
    cases q : HZ K a z b with
    | none => rfl
    | some u =>
      rcases hz_inv q with ⟨hP, _⟩ | ⟨eb, _, _⟩
      · rw [(c.tab hP).1] at e
        exact absurd (congrArg Obj.data (Option.some.inj e)).symm n2
      · rw [eb, ha] at e
        exact absurd (congrArg Obj.data (Option.some.inj e)).symm (n1 _ _)
  have names : ∀ {b : Addr} {m : Str → Option Value}, s.heap.Ns b m → (hidT s.heap (HZ K a z)).Ns b m := fun {b m} ⟨o, es, ep, e, d, r⟩ =>
    ⟨o, es, ep, hidT_get e (loose e (fun x n q => by rw [d] at q; cases q) fun q => by rw [d] at q; cases q), d, r⟩
  have inB : K.In (hidT s.heap (HZ K a z)) := fun b o e => hidT_get (c.k b o e) (by
    cases q : HZ K a z b with
    | none => rfl
    | some u =>
      rcases hz_inv q with ⟨hP, _⟩ | ⟨eb, hK, _⟩
      · rw [(c.tab hP).2.1] at e
        cases e
      · rw [eb, hK] at e
        cases e)
  have tabB : ∀ {cd P : Addr}, P = pA K ∨ P = pB K → PySem.W.codeHdIn K cd P = true → LamX.TabB (hidT s.heap (HZ K a z)) mg cd P := fun {cd P} hP hc => by
    obtain ⟨bm, ob, e1, e2, e3, e4, e5, e6⟩ := c.bm
    have g1 : bm ≠ mainGlobals := fun q => by
      obtain ⟨o, es, ep, e, d, _⟩ := c.g
      rw [q, show s.heap.get? mainGlobals = some o from e] at e3
      rw [← Option.some.inj e3, d] at e6
      cases e6
    have g2 : bm ≠ P := fun q => by
      rw [q, (c.tab hP).1] at e3
      rw [← Option.some.inj e3] at e6
      cases e6
    refine ⟨PySem.W.codeHd_of_K inB hc, ⟨bm, ob, e1, e2, g1, g2, hidT_get e3 (loose e3 (fun x n q => by rw [e6] at q; cases q) fun q => by rw [e6] at q; cases q), e4, e5, e6⟩, fun q => ?_⟩
    obtain ⟨o, es, ep, e, d, _⟩ := c.g
    rw [q, (c.tab hP).1] at e
    rw [← Option.some.inj e] at d
    cases d
  have held : HOk pw w (HZ K a z) s.heap := fun b u e => by
    rcases hz_inv e with ⟨hP, rfl⟩ | ⟨rfl, _, rfl⟩
    · exact (c.tab hP).1
    · rw [hzd]
      exact ⟨ha, by rw [List.length_map]; exact hl, vs, _, rel, ha⟩
  have seq : SqL K (HZ K a z) a (ns.map V.int) := by
    cases hk : K.lookup a with
    | none => exact .inl (.inr ⟨_, by rw [hz_list (apart _ (.inl rfl)) (apart _ (.inr rfl)) hk, hzd]⟩)
    | some o =>
      have e := c.k a o hk
      rw [ha] at e
      rw [← Option.some.inj e] at hk
      exact .inr ⟨_, vs.toArray, _, hk, rfl, rfl, rfl, by rw [List.size_toArray, hlen]; exact hl, by simpa using rel⟩
  obtain ⟨limc, l1, l2⟩ := c.lim
  have env : Env0 pw w K mg (hidT s.heap (HZ K a z)) callerA [] s (HZ K a z) :=
    ⟨rfl, ⟨inB, names c.g, ⟨mb, names c.b, c.blt⟩, limc, names l1, l2⟩, fun b o e => of_hidT e, Nat.le_of_eq (hidT_size _ _), trivial, fun b hb => (nomatch hb), held, .of_eq c.gens⟩
  have G := ok_law (w := w) (base := hidT s.heap (HZ K a z)) T (tabB (.inl rfl) (c.says.hd _ List.mem_cons_self)) (tabB (.inr rfl) (c.says.hd _ (List.mem_cons_of_mem _ (List.mem_singleton.mpr rfl))))
  obtain ⟨fd, hm2, _, hB, F⟩ := G.ex
  rw [hm] at hm2
  have efa : fa = He.ga K "law" := Value.ref.inj (Option.some.inj hm2)
  have bind := hB s [.ref a] c.k rfl
  rw [efa]
  refine codeAny_mono (F.go callerA [] s (HZ K a z) ⟨[.ref a], []⟩ [.ref a] [.ref a] (fun v _ => v = .bl true) (fun _ _ _ => False) rfl ⟨rfl, by decide, by decide⟩ env bind (.cons rfl .nil) ⟨(a, ns), rfl, ⟨seq, hz_tab (.inl rfl), hz_tab (.inr rfl)⟩, fun _ _ h => h⟩) fun r t hr => ?_
  match r, hr with
  | .ok (.ret u), hr =>
    obtain ⟨v, H', eo, bare, un, held', rv, rfl⟩ := hr
    obtain rfl : u = Value.bool true := rv
    refine ⟨rfl, ⟨fun b o e => ?_, fun b o e => ?_⟩, eo, bare⟩
    all_goals by_cases hP : b = pA K ∨ b = pB K
    · obtain ⟨more, q⟩ := un.tbls b #[] (hz_tab hP)
      obtain ⟨q1, _, cd, q3⟩ := c.tab hP
      have q2 : t.heap.get? b = _ := held' b _ q
      rw [q1] at e
      rw [← Option.some.inj e]
      exact .inr (.inl ⟨((PySem.W.codeHd_of_K c.k q3).tab q1).isCodeTable, rfl, #[], more, rfl, q2⟩)
    · refine .inl ?_
      cases q : HZ K a z b with
      | none => exact un.keep b o e q (fun h => nomatch h) (fun h => nomatch h)
      | some u =>
        rcases hz_inv q with ⟨h, _⟩ | ⟨rfl, _, rfl⟩
        · exact absurd h hP
        · have q2 := held' b _ (un.frzs b _ _ (q.trans (congrArg some hzd)))
          rw [ha] at e
          rw [← Option.some.inj e]
          exact q2.1
    · obtain ⟨more, q⟩ := un.tbls b #[] (hz_tab hP)
      exact ⟨_, held' b _ q⟩
    · cases q : HZ K a z b with
      | none => exact ⟨o, un.keep b o e q (fun h => nomatch h) (fun h => nomatch h)⟩
      | some u =>
        rcases hz_inv q with ⟨h, _⟩ | ⟨rfl, _, rfl⟩
        · exact absurd h hP
        · exact ⟨_, (held' b _ (un.frzs b _ _ (q.trans (congrArg some hzd)))).1⟩
end
end Fl

-- KN6
/-! the top's run -/
namespace Fl
open PySem PySem.Spec PyProof.Rows L2
open PySem.W PySem.Calls HandSHeadRun
abbrev R75 : OpenRow := PySem.W.OpenLaw.row PySem.Challenge.rw_firstletter_k75_whole_lines_read
def ob75 (s : PySem.W.SharedT) : AlY := obsY (HandSHeadRun.getT s)
theorem ob75_eq (s : PySem.W.SharedT) : ob75 s = hookY.obs s.abs := obsY_eq (HandSHeadRun.getT_eq s)
def lo1 : List PySem.Str := ["LetterError", "PaperError", "WebError", "LiveError", "TextError", "InvalidPaper", "NotUsable", "Missed", "InvalidEvent", "NothingToUndo", "InvalidText", "InvalidRow"]
def lo2 : List PySem.Str := ["LETTERS", "LONGEST_NAME", "GUARD_WORDS", "is_integer", "is_count", "is_name", "is_rising", "is_table", "DIGITS", "MOST_DIGITS", "number_or_none", "count_or_none"]
def lo3 : List PySem.Str := ["table_or_none", "numbers_or_none", "Words", "HEADS", "taken_kind", "web_read", "EVENT_WORDS", "taken_store", "event_read", "read_event", "web_of_rows", "read_log"]
def lo4 : List PySem.Str := ["_law_feed", "_law_draw", "_law_any", "_law_names", "_law_scene", "_law_kind", "_law_pairs", "_law_start", "_law_line", "_law_web_lines", "_law_lines", "_law_heard"]
def lo5 : List PySem.Str := ["_law_is_number", "_law_is_name", "_law_can", "_law_spot", "_law_event_forms", "_law_event_of", "_law_log_of", "_law_log_due", "_law_odd_word", "_law_bent_line", "_law_bent", "_law_any_event"]
def lo6 : List PySem.Str := ["_law_event_right"]
def lo75 : List PySem.Str := lo1 ++ (lo2 ++ (lo3 ++ (lo4 ++ (lo5 ++ lo6))))
theorem run75 (w : World) : HandSHeadRun.RunEq R75 (PySem.W.view R75.prog [67]) hookY ob75 8000 lo75 w := by
  intro os
  kernel_rfl
end Fl

-- KN7
/-! the end -/
open PySem PySem.W PySem.Calls PyProof.Rows
theorem PySem.Challenge.cw_firstletter_k75_whole_lines_read_holds : PySem.Challenge.rw_firstletter_k75_whole_lines_read.Holds := by
  w_on; o_law
  refine HandSHeadRun.head_any (r := OpenLaw.row PySem.Challenge.rw_firstletter_k75_whole_lines_read) (q := view (OpenLaw.row PySem.Challenge.rw_firstletter_k75_whole_lines_read).prog [67]) (H := Fl.hookY) (ob := Fl.ob75) (M := 8000) (loose := Fl.lo75) (d := HandSHeadRun.topDef (OpenLaw.row PySem.Challenge.rw_firstletter_k75_whole_lines_read).prog 67) (kwd := []) Fl.ob75_eq
    (by kernel_rfl) (fun s => by kernel_rfl) Fl.run75 (by kernel_rfl) (by kernel_rfl) (by kernel_rfl) (by rfl) (by first | assumption | decide +kernel) (by decide +kernel) ⟨rfl, rfl, rfl, rfl, rfl, by decide +kernel⟩ ?hw ?hc
  case hw => w_witness2
  case hc =>
    refine Att.attach_callB (l := PySem.Challenge.rw_firstletter_k75_whole_lines_read) (n := 63) rfl (by kernel_rfl) fun w s₀ s₁ mg mb fa o pm cd doc a vs ns G Y ho hd hcd hmg hobj hints hlen hbits hg => ?_
    obtain ⟨K, KX, c⟩ := Y
    have nm : (HandSHeadRun.topDef (OpenLaw.row PySem.Challenge.rw_firstletter_k75_whole_lines_read).prog 67).name = ("law" : PySem.Str) := by kernel_rfl
    rw [nm] at hmg
    exact Fl.law_goes (mb := mb) ⟨KX, c, G.T.g, G.T.b, G.T.builtins, G.T.nolimit, hg, G.T.bmain⟩ hmg hobj hints (Nat.le_trans hlen (by decide))
