import PyProof.Rows.All
import Wide.All
import OpenK.AllK
import Wide.FinOn
import KE.KExcSuper
import HandS.Base
import HandS.Call
import HandS.Ends
import HandS.Exc
import HandS.HeadWalk
import KE.KExcIs
import HandS.ForExc
import HandS.ForMost
import HandS.ExcIs
import HandS.ExcField
import HandS.ExcValue
import HandS.IsInst
import HandS.Lambda
import HandS.Defaults
import HandS.HeadHook2
import HandS.Property
import HandS.Conv
import HandS.TupSets
import HandS.TupLe
import HandS.TupAny
import HandS.Deep
import HandS.Flow
import HandS.OwnEq
import KE.SortData
import PyProof.InstNe
import HandS.Star
import HandS.AnyAll
import HandS.Walk
import HandS.Text
import KE.KStateDown
import HandS.Words
import HandS.WordsExc
import HandS.Head0
import HandS.Head1
import HandS.Head2
import HandS.HeadEnd
import HandS.HeadHook3
import PySem.Challenge.RW_restsallowed_k03_texts_of_plans
set_option Elab.async false
set_option linter.all false
set_option maxRecDepth 100000
set_option maxHeartbeats 4000000
/-! E1: raising an exception of a class whose inherited __init__ is `super().__init__(text); self.F = F`. -/
namespace PySem
namespace EX
open PySem.W PySem.Calls PyProof.Rows PySem.HandSPX
inductive Fk where | part | index
def Fk.name : Fk → Str | .part => "part" | .index => "index"
def Fk.msg : Fk → Str | .part => "a value is not as it should be" | .index => "a list is not as it should be"
def Fk.qual : Fk → Str | .part => "PartError.__init__" | .index => "ItemError.__init__"
def iA (k : Fk) (p1 p2 : Pos) : Arguments := { posonlyargs := [], args := [{ arg := "self", annotation := none, pos := p1 }, { arg := k.name, annotation := none, pos := p2 }], vararg := none, kwonlyargs := [], kw_defaults := [], kwarg := none, defaults := [] }
def iB (k : Fk) (q1 q2 q3 q4 q5 q6 q7 q8 q9 q10 : Pos) : List Stmt :=
  [.Expr (.Call (.Attribute (.Call (.Name "super" q1) [] [] q2) "__init__" q3) [.Constant (.str k.msg) 0 q4] [] q5) q6,
   .Assign [.Attribute (.Name "self" q7) k.name q8] (.Name k.name q9) q10]
def iS (k : Fk) : Scope := { kind := .function, names := [(PySem.Str.ofString "self", .local), (k.name, .local), (PySem.Str.ofString "__class__", .free), (PySem.Str.ofString "super", .globalImplicit)], isGenerator := false, isCoroutine := false, more := [] }
/-- what the written part says of such a class, at C; D: the class that owns the __init__ at fI; cc: its cell; cda: its code -/
structure XTxt (prog : Program) (K : Frag) (k : Fk) (C D fI cc cda : Addr) : Prop where
  cls : ∃ nm q N bs bm sn sub ab col dd k0 k1 k2 k3 k5, K.lookup C = some (excClassObj nm q C N bs bm true sn sub ab col dd k0 k1 k2 k3 k5 "ValueError.__new__") ∧ refsVE bm = true
  sa : findIn K (.ref C) "__setattr__" = some (some (.builtin "object.__setattr__"))
  noN : findIn K (.ref C) k.name = some none
  iC : findIn K (.ref C) "__init__" = some (some (.ref fI))
  tC : typeIn K (.ref fI) = some (.type "function")
  kC : keepIn K (.ref C) = true
  exC : subIn K (.ref C) (.type "BaseException") = some true
  veC : subIn K (.ref C) (.type "ValueError") = some true
  tyC : typeIn K (.ref C) = some (.type "type")
  dC : (clsIn K D).isSome = true
  mD : mroIn K C (.ref D) = some true
  nsu : nsIn K mainGlobals "super" = some none
  tp : nsIn K cStatics "thirdparty.any" = some none
  su : ks_superIn K C D "__init__" = some (some (.builtin "ValueError.__init__"))
  fn : ∃ (oc : Value) (od : Option Addr) (kV doc pm : Value) (an : Option Addr) (ct : Value) (osl : Array (Option Value)) (p1 p2 q1 q2 q3 q4 q5 q6 q7 q8 q9 q10 : Pos),
    K.lookup fI = some ⟨oc, od, .func (ksFn "__init__" k.qual (iA k p1 p2) (iB k q1 q2 q3 q4 q5 q6 q7 q8 q9 q10) (iS k) .none kV doc pm an (.ref cda) ct cc), osl⟩ ∧ codeIn K (.ref cda) k.qual = true ∧ (q3.endLine == q5.line) = true
  code : ∃ (ccl : Value) (cdd : Option Addr) (vs : Array Value) (ccs : Array (Option Value)) (file : Str) (tf : Tok), K.lookup cda = some ⟨ccl, cdd, .fields vs, ccs⟩ ∧ vs[2]? = some (.str file tf) ∧ ((prog.main.file : Str) == file) = true
  cell : ∃ (cl : Value) (cld : Option Addr) (csl : Array (Option Value)), K.lookup cc = some ⟨cl, cld, .cell (some (.ref D)), csl⟩
  top : (prog.main.scope.names.lookup ("super" : Str)).isSome = false
/-- what __init__ leaves of a fresh exception at x -/
structure InitEnd (k : Fk) (h h' : Heap) (x C dx t1 : Addr) (v : Value) : Prop where
  keep : ∀ b o, b ≠ x → h.get? b = some o → h'.get? b = some o
  obj : h'.get? x = some { cls := .ref C, dict := some dx, data := .fields #[.ref t1, .none, .none, .none, .bool false, .none] }
  dbig : h.objs.size ≤ dx
  dne : dx ≠ x
  ns : h'.Ns1 dx (fun y => if y = k.name then some v else none)
/-- a made exception -/
structure OwnMade (k : Fk) (h h' : Heap) (e C d : Addr) (v : Value) : Prop where
  keep : ∀ b o, h.get? b = some o → h'.get? b = some o
  new : h.objs.size ≤ e
  obj : ∃ oe vs, h'.get? e = some oe ∧ oe.cls = .ref C ∧ oe.dict = some d ∧ oe.data = .fields vs ∧ vs[1]? = some .none
  dbig : h.objs.size ≤ d
  dne : d ≠ e
  ns : h'.Ns1 d (fun y => if y = k.name then some v else none)
section
variable {prog : Program} {w : World} {A : Around} {E : Value → Shared → Prop} {h : Heap} {g : Array GenState} {d : Drawn} {t : Nat} {os : OsState}
variable {nm q : Str} {C N : Addr} {bs bm : List Value} {hdct : Bool} {sn : List Str} {sub : List Value} {ab : Bool} {col : Option Bool} {dd : Option Addr} {k0 k1 k2 k3 k5 : Option Value}
/-- the method-wrapper called -/
theorem call_bwV {u e t0 : Addr} {rest : List Value} {Q : Value → Shared → Prop}
    (hC : h.get? C = some (excClassObj nm q C N bs bm hdct sn sub ab col dd k0 k1 k2 k3 k5 "ValueError.__new__")) (he : h.get? e = some (excO C t0)) (hu : h.get? u = some (kxs_mw "ValueError.__init__" e)) (hrest : rest.length ≤ sizeLine)
    (hq : ∀ h' t1, (∀ b o, b ≠ e → h.get? b = some o → h'.get? b = some o) → h'.get? e = some (excO C t1) → Q .none ⟨h', g, d, t, os⟩) :
    wpAny (model prog w) A (call (.ref u) rest) Q E ⟨h, g, d, t, os⟩ := by
  refine wpAny_call (codeAny_of_tree ?_)
  show wpAny _ A.in1 (callAny (.ref u) ⟨rest, []⟩) _ _ _
  simp only [callAny]
  refine wpAny_bind (wpAny_load hu ?_)
  simp only [kxs_mw, show (Value.type "method-wrapper" == Value.type "method" || Value.type "method-wrapper" == Value.type "builtin_function_or_method" || Value.type "method-wrapper" == Value.type "method-wrapper") = true by decide, if_true]
  refine KFB.if_so (by decide) ?_
  refine wpAny_bind (check_bound_init F.excBase_ValueError.toExcCallFacts hC he rfl ?_)
  refine wpAny_bind (wpAny_pure (wpAny_pure ?_))
  refine ⟨plainId_quiet F.excBase_ValueError.init.plain _, codeAny_builtin F.excBase_ValueError.initEntry ?_⟩
  exact exc_init_tree (cls := .ref C) (t0 := t0) (dv := none) (c2 := .none) (c3 := .none) (b4 := .bool false) he hrest fun h' k e' _ => hq h' _ k e'
end
section
variable {prog : Program} {w : World} {A : Around} {E : Value → Shared → Prop} {R : Result → Shared → Prop} {s : Shared} {K : Frag} {mg mb : Str → Option Value} {k : Fk} {C D fI cc cda : Addr}
theorem one_size (v : Value) : [v].length ≤ sizeLine := by
  rw [sizeLine_eq]
  exact (by decide : 1 ≤ 16777216)
theorem ldC {M : Model} {s : Shared} {env : Env} {m : Str → Option Value} {x : Str} {pos : Pos} {v : Value} {Q : Value → Shared → Prop} {A : Around} {E : Value → Shared → Prop} (hn : s.heap.Ns env.locals m) (hv : m x = some v) (h : Q v s)
    (hk : env.scope.kind = .function) (hl : env.kindOf x = some .local) (hd : (x == ("__debug__" : Str)) = false) : wpAny M A (eval (.Name x pos) env) Q E s := wpAny_Name (wpAny_loadName_local hk hl hn hv h) hd
theorem part_init (T : XTxt prog K k C D fI cc cda) {x t0 : Addr} {v : Value} (X : K.In s.heap) (hlim : s.heap.NoLimit) (G : s.heap.Ns mainGlobals mg) (hmg : mg "super" = none) (Bn : s.heap.Ns builtinsNs mb) (hmb : mb "super" = some (.type "super"))
    (hx : s.heap.get? x = some (excO C t0)) (hnx : K.lookup x = none) (hxG : x ≠ mainGlobals) (hxB : x ≠ builtinsNs) (hroom : A.depth < recursionLimit)
    (hq : ∀ h' tk dx t1, InitEnd k s.heap h' x C dx t1 v → R (.ok (.ret .none)) { s with heap := h', toks := tk }) :
    codeAny (model prog w) A (.call (.ref fI) ⟨[.ref x, v], []⟩) R s := by
  obtain ⟨oc, od, kV, doc, pm, an, ct, osl, p1, p2, q1, q2, q3, q4, q5, q6, q7, q8, q9, q10, ho, hcd, hln⟩ := T.fn
  obtain ⟨nm, q, N, bs, bm, sn, sub, ab, col, dd, k0, k1, k2, k3, k5, hC, hbm⟩ := T.cls
  obtain ⟨ccl, cdd, vs, ccs, file, tf, hcode, hvs, hfile⟩ := T.code
  obtain ⟨cl, cld, csl, hcell⟩ := T.cell
  obtain ⟨cdD, hD⟩ := Option.isSome_iff_exists.mp T.dC
  have hcl : clsIn K C = some { name := nm, bases := bs, mro := .ref C :: bm, ns := N, qualname := q, hasDict := true, slotNames := sn, subclasses := sub, abstract := ab, collection := col, hasDel := false } := by unfold clsIn; rw [hC] <;> rfl
  refine ks_codeAny_call_defAt (fd := ksFn "__init__" k.qual (iA k p1 p2) (iB k q1 q2 q3 q4 q5 q6 q7 q8 q9 q10) (iS k) .none kV doc pm an (.ref cda) ct cc) (body := iB k q1 q2 q3 q4 q5 q6 q7 q8 q9 q10) (binds := [("self", .ref x), (k.name, v)])
    hroom (X _ _ ho) rfl hlim (codeRec_of X hcd) rfl (BindsTo.of_eq (by cases k <;> rfl)) (show ∀ x ∈ (iS k).names, x.2 ≠ NameKind.cell from by cases k <;> decide) (locs (by cases k <;> rfl)) (fun h₁ hns kp => ?_) (by cases k <;> rfl) (by cases k <;> rfl) (by cases k <;> rfl)
  obtain ⟨hh, g, d, t, os⟩ := s
  dsimp only at *
  have X₁ : K.In h₁ := X.keeps kp
  have hx₁ := kp _ _ hx
  have I₁ : InstAt h₁ x (excO C t0) C none := ⟨hx₁, rfl, rfl, trivial⟩
  have kG : h₁.Ns mainGlobals mg := by
    obtain ⟨o, es, ep, e, r⟩ := G
    exact ⟨o, es, ep, kp _ _ e, r⟩
  have kB : h₁.Ns builtinsNs mb := by
    obtain ⟨o, es, ep, e, r⟩ := Bn
    exact ⟨o, es, ep, kp _ _ e, r⟩
  obtain ⟨oD, hD1, hD2⟩ : ∃ oD, h₁.get? D = some oD ∧ oD.data = .cls cdD := by
    unfold clsIn at hD
    split at hD
    · rename_i c d' cd' sl ho'
      cases hD
      exact ⟨_, X₁ _ _ ho', rfl⟩
    · cases hD
  -- super().__init__(text)
  show wpAt _ _ _ (execs _ _) _ _ _
  refine ks_wpAt_execs_cons (ks_wpAt_Expr_any (ks_wpAt_MethodCall (pl := L2.plainOf (.Call (.Name "super" q1) [] [] q2) (callEnv (ksFn "__init__" k.qual (iA k p1 p2) (iB k q1 q2 q3 q4 q5 q6 q7 q8 q9 q10) (iS k) .none kV doc pm an (.ref cda) ct cc) hh.objs.size fI)) ?_ ?_) (by cases k <;> rfl) (by cases k <;> rfl))
  · -- the base: super()
    refine ks_wpAt_super_base (f := fI) (cc := cda) (ar := { arg := "self", annotation := none, pos := p1 }) (by cases k <;> rfl) (by cases k <;> rfl) (by decide) rfl (X₁ _ _ ho) rfl rfl rfl (X₁ _ _ hcode) rfl hvs hfile T.top ?_
    refine ks_loadName_global (by cases k <;> rfl) (by cases k <;> rfl) (loadGlobal_builtin kG hmg kB hmb ⟨rfl, ?_⟩)
    refine wpAny_loadName_free (by cases k <;> rfl) (by cases k <;> rfl) rfl ⟨_, X₁ _ _ hcell, rfl⟩ ?_
    refine wpAny_loadName_local (v := .ref x) (by cases k <;> rfl) (by cases k <;> rfl) hns (by cases k <;> rfl) ?_
    refine ks_wpAny_isType_cls hD1 hD2 ⟨rfl, ?_⟩
    refine ks_wpAny_call_super hD1 hD2 hx₁ rfl (fun c e => by cases e) (looks_mroIn X₁ T.mD) (fun h₂ e₂ k₂ => ?_)
    -- .__init__ of it
    have X₂ : K.In h₂ := X₁.keeps k₂
    have hx₂ := k₂ _ _ hx₁
    have hxC : x ≠ C := fun z => by
      have q := hnx
      rw [z, hC] at q
      cases q
    have sub : Looks (model prog w) h₂ (isInstance (.ref x) (.type "ValueError")) true := (InstAt.type (⟨hx₂, rfl, rfl, trivial⟩ : InstAt h₂ x (excO C t0) C none)).andThen (looks_subIn X₂ T.veC)
    have hsu : alongIn K "__init__" (((Value.ref C :: bm).dropWhile (· != .ref D)).drop 1) = some (some (.builtin "ValueError.__init__")) := by
      have q := T.su
      unfold ks_superIn at q
      rw [hcl] at q
      exact q
    refine kxs_getMethod kxs_ValueError e₂ (looks_opaque X₂ T.tp) (fun A Q E s kk q => wpAny_bind ((looks_clsIn X₂ hcl) A _ E s kk (wpAny_pure q))) rfl X₂ hsu sub hxC (by decide) ?_
    -- the call
    have hx₃ : (h₂.push (kxs_mw "ValueError.__init__" x)).get? x = some (excO C t0) := Heap.get?_push_of_some _ hx₂
    refine kxs_callWith (i := "ValueError.__init__") (x := x) rfl ?_
    refine evalArgs_plain ?_
    refine Calls.spliced_cons (Calls.Constant_str (pos := q4) (k := 0) ?_)
    refine Calls.spliced_nil ⟨Heap.get?_push_size _ rfl, ?_⟩
    refine call_bwV (t0 := t0) (Heap.get?_push_of_some _ (X₂ _ _ hC)) hx₃ (Heap.get?_push_size _ rfl) (one_size _) fun h₄ t1 k₄ hx₄ => ?_
    -- self.F = F
    have K4 : ∀ b o, b ≠ x → h₁.get? b = some o → h₄.get? b = some o := fun b o hb e => k₄ b o hb (Heap.get?_push_of_some _ (k₂ _ _ e))
    have X₄ : K.In h₄ := fun a o e => K4 a o (fun z => by rw [z, hnx] at e; cases e) (X₁ a o e)
    have hxL : hh.objs.size ≠ x := Nat.ne_of_gt (Heap.lt_size hx)
    have hn4 : h₄.Ns hh.objs.size fun y => ([("self", Value.ref x), (k.name, v)] : List (Str × Value)).reverse.lookup y := by
      obtain ⟨o, es, ep, e, r⟩ := hns
      exact ⟨o, es, ep, K4 _ _ hxL e, r⟩
    refine ks_wpAt_execs_cons (wpAt_of_wpAny (plainObj_wpAny_Assign_Attribute ?_ ?_))
    · refine ldC (v := v) hn4 (by cases k <;> rfl) (ldC (v := .ref x) hn4 (by cases k <;> rfl) ?_ (by cases k <;> rfl) (by cases k <;> rfl) (by decide)) (by cases k <;> rfl) (by cases k <;> rfl) (by cases k <;> decide)
      refine set_plain X₄ (ox := excO C t1) (od := none) ⟨hx₄, rfl, rfl, trivial⟩ T.sa ?_
      refine exc_osa X₄ hx₄ hcl (show refsVE (.ref C :: bm) = true from hbm) rfl T.noN (fun h₅ tk₅ dx k₅ dn dne hx₅ hn₅ => ?_)
      refine wpAt_of_wpAny (wpAny_execs_nil (hq h₅ tk₅ dx t1 ⟨fun b o hb e => k₅ b o hb (K4 b o hb (kp b o e)), hx₅, ?_, dne, hn₅⟩))
      have z : hh.objs.size < h₄.objs.size := hn4.lt
      exact Nat.le_of_lt (Nat.lt_of_lt_of_le z dn)
    · cases k <;> rfl
  · rw [arm_eval_Call]
    have e : ∀ ov : Value, methodCall (.Call (.Name "super" q1) [] [] q2) "__init__" q3 q5 (callEnv (ksFn "__init__" k.qual (iA k p1 p2) (iB k q1 q2 q3 q4 q5 q6 q7 q8 q9 q10) (iS k) .none kV doc pm an (.ref cda) ct cc) hh.objs.size fI) ov ([Expr.Constant (.str k.msg) 0 q4].length + ([] : List Keyword).length)
        (backTo q5 (starEach [Expr.Constant (.str k.msg) 0 q4] (callEnv (ksFn "__init__" k.qual (iA k p1 p2) (iB k q1 q2 q3 q4 q5 q6 q7 q8 q9 q10) (iS k) .none kV doc pm an (.ref cda) ct cc) hh.objs.size fI))) [] = _ := fun ov => L2.mcall_line rfl hln
    exact congrArg (fun z => attributeBase _ _ _ _ >>= fun ov => standAt q3.atName >>= fun _ => z ov) (funext e)
theorem part_made (T : XTxt prog K k C D fI cc cda) {v : Value} (X : K.In s.heap) (hlim : s.heap.NoLimit) (G : s.heap.Ns mainGlobals mg) (hmg : mg "super" = none) (Bn : s.heap.Ns builtinsNs mb) (hmb : mb "super" = some (.type "super")) (hroom : A.depth + 1 < recursionLimit)
    (hq : ∀ h' tk e d, OwnMade k s.heap h' e C d v → R (.ok (.ret (.ref e))) { s with heap := h', toks := tk }) :
    codeAny (model prog w) A (.call (.ref C) ⟨[v], []⟩) R s := by
  obtain ⟨nm, q, N, bs, bm, sn, sub, ab, col, dd, k0, k1, k2, k3, k5, hC, hbm⟩ := T.cls
  obtain ⟨hp, g, dr, tk, os⟩ := s
  have kk : ∀ b o, hp.get? b = some o → ((hp.push (kdv_tup [v])).push (excO C hp.objs.size)).get? b = some o := fun b o e => Heap.get?_push_of_some _ (Heap.get?_push_of_some _ e)
  have hget : ((hp.push (kdv_tup [v])).push (excO C hp.objs.size)).get? (hp.objs.size + 1) = some (excO C hp.objs.size) := by heap_get
  have ns_lt : ∀ {b : Addr} {m : Str → Option Value}, hp.Ns b m → b < hp.objs.size := fun n => n.lt
  have nsK : ∀ {b : Addr} {m : Str → Option Value}, hp.Ns b m → ((hp.push (kdv_tup [v])).push (excO C hp.objs.size)).Ns b m := fun ⟨o, es, ep, e, r⟩ => ⟨o, es, ep, kk _ _ e, r⟩
  have hnx : K.lookup (hp.objs.size + 1) = none := by
    cases e : K.lookup (hp.objs.size + 1) with
    | none => rfl
    | some o =>
      have z : hp.get? (hp.objs.size + 1) = some o := X _ _ e
      exact absurd (Nat.lt_of_succ_lt (Heap.lt_size z)) (Nat.lt_irrefl _)
  refine call_own F.excBase_ValueError (fun X => refsVE_contains X bm hbm) (X _ _ hC) (looks_findIn X T.iC) (fun self => bind_fn X self T.tC) (one_size v) ?_
  refine part_init (s := ⟨(hp.push (kdv_tup [v])).push (excO C hp.objs.size), g, dr, tk, os⟩) T (X.keeps kk) (hlim.keeps kk) (nsK G) hmg (nsK Bn) hmb hget hnx (Nat.ne_of_gt (Nat.lt_succ_of_lt (ns_lt G))) (Nat.ne_of_gt (Nat.lt_succ_of_lt (ns_lt Bn))) ?_ fun h' tk' dx t1 ⟨k', hx, dn, dne, hns⟩ => ?_
  · show A.depth + 1 < recursionLimit
    exact hroom
  · have old : ∀ b o, hp.get? b = some o → h'.get? b = some o := fun b o e => k' b o (Nat.ne_of_lt (Nat.lt_succ_of_lt (Heap.lt_size e))) (kk b o e)
    have z : hp.objs.size + 1 + 1 ≤ dx := by
      first
        | (simpa only [Heap.size_push] using dn)
        | exact dn
        | (have q := dn; rw [Heap.size_push, Heap.size_push] at q; exact q)
    exact ⟨rfl, hq h' tk' (hp.objs.size + 1) dx ⟨old, Nat.le_succ _, ⟨_, _, hx, rfl, rfl, rfl, rfl⟩, Nat.le_trans (Nat.le_trans (Nat.le_succ _) (Nat.le_succ _)) z, dne, hns⟩⟩
end
end EX
end PySem
set_option maxHeartbeats 4000000
/-! E2: over the layer: raise C(e); try: .. except X as n: y = n, the exception kept as a value; isinstance and fields of such a value. -/
namespace L2
open PySem PySem.Spec PyProof.Rows PySem.EX
/-! ### C(e) -/
def tMkP (k : Fk) (C : Addr) (ta : TA) : St → Hp → XK → Prop := fun σ H Q => ta σ H fun vs H1 => ∃ v, vs = [v] ∧ ∀ d, H1 d = none → Q (.ref C) (some d) (upd H1 d (.xd [(k.name, v)]))
theorem relO_one {v : V} {v' : Value} (n : Str) (r : RelV v v') (f : Str) : RelO (List.lookup f [(n, v)]) (if f = n then some v' else none) := by
  by_cases hw : f = n
  · subst hw
    rw [if_pos rfl]
    have q : List.lookup f [(f, v)] = some v := by simp [List.lookup]
    rw [q]
    exact r
  · rw [if_neg hw]
    have qw : (f == n) = false := by simpa using hw
    have q2 : List.lookup f [(n, v)] = none := by simp [List.lookup, qw]
    rw [q2]
    trivial
section
variable {X : Cx} {kd : Fk} {C D fI cc cda : Addr}
theorem pmk_part {x : Str} {a : Expr} {ta : TA} {p pos : Pos} {k : Nat} (T : XTxt X.prog X.K kd C D fI cc cda) (gC : X.mg x = some (.ref C)) (hr : Room k X.A) (ha : PA X [a] ta) (hg : Gl X x := by rfl) (hdb : (x == ("__debug__" : Str)) = false := by decide)
    (he : starEach (a :: []) X.env = (false, eval a X.env) :: starEach [] X.env := by rfl) (hpl : (backTo pos (starEach [] X.env)).any (·.1) = false := by rfl) :
    PMk X (.Call (.Name x p) [a] [] pos) (tMkP kd C ta) := by
  intro pins s σ H Q I h
  refine wpAny_Call_Name_kw (ld_glob I hg gC ?_ hdb)
  refine PySem.W.callWith_K (h₀ := X.base) I.ok.mod.kin T.kC (thn (ha.run pos pins s σ H _ I h) fun us s1 hh => ?_) he hpl
  obtain ⟨vs, H1, I1, r1, v, ev, q1⟩ := hh
  subst ev
  refine ⟨I1.kIn, ?_⟩
  cases r1 with
  | cons rv rn =>
    rename_i v' us'
    cases rn
    show wpAny _ _ (call (.ref C) [v']) _ _ _
    have hlim := I1.nolimit
    have kIn := I1.kIn
    have G : s1.heap.Ns mainGlobals X.mg := by
      obtain ⟨o, es, ep, e, r⟩ := I1.mod.glob
      exact ⟨o, es, ep, I1.bk _ _ e, r⟩
    have hmg : X.mg "super" = none := PySem.W.mg_none_of kIn G T.nsu
    obtain ⟨mb, hb0, hbb⟩ := I1.mod.blt
    have Bn : s1.heap.Ns builtinsNs mb := by
      obtain ⟨o, es, ep, e, r⟩ := hb0
      exact ⟨o, es, ep, I1.bk _ _ e, r⟩
    have hmb : mb "super" = some (.type "super") := (hbb "super" (by decide)).trans (by decide +kernel)
    obtain ⟨hp, g, dr, tk, os⟩ := s1
    refine wpAny_call (part_made T kIn hlim G hmg Bn hmb (by have := hr.dp; omega) fun h' tk' e d M => ?_)
    show MkP X pins σ Q (.ref e) ⟨h', g, dr, tk', os⟩
    obtain ⟨oe, fv, hoe, hc, hd, hdat, h1⟩ := M.obj
    have hns := M.ns
    obtain ⟨G', g1, g2⟩ := restrict h' fun b => decide (b ≠ e)
    have gk : ∀ b, b ≠ e → G'.get? b = h'.get? b := fun b hb => g1 b (decide_eq_true hb)
    have ge : G'.get? e = none := g2 e (by simp)
    have old : ∀ b o, hp.get? b = some o → G'.get? b = some o := fun b o q => (gk b (Nat.ne_of_lt (Nat.lt_of_lt_of_le (Heap.lt_size q) M.new))).trans (M.keep b o q)
    have ob : ObjOk X.prog X.w (upd H1 d (.xd [(kd.name, v)])) G' d (.xd [(kd.name, v)]) :=
      ⟨_, hns.at (fun o q => (gk d M.dne).trans q), fun f => relO_one kd.name rv f⟩
    have J : Inv X pins σ (upd H1 d (.xd [(kd.name, v)])) ⟨G', g, dr, tk', os⟩ := I1.laid (t' := tk') old M.dbig ob
    refine ⟨e, oe, fv, ⟨G', g, dr, tk', os⟩, _, .ref C, some d, rfl, J, fun b o q => ?_, ge, hoe, ⟨hc, hd⟩, hdat, h1, ?_, rfl, I1.bare, raises_own T.exC T.tyC, q1 d (I1.hok.fresh M.dbig)⟩
    · by_cases hb : b = e
      · have q' : G'.get? b = some o := q
        rw [hb, ge] at q'; cases q'
      · exact (gk b hb).symm.trans q
    · rw [upd_ne (Ne.symm M.dne)]
      exact I1.hok.fresh M.new
/-- raise C(e) -/
def tRaiseP (kd : Fk) (C : Addr) (W : WX) (ta : TA) : TS := fun _ σ H => tMkP kd C ta σ H fun cls d H' => W cls d σ H'
theorem ps_raiseP {x : Str} {a : Expr} {ta : TA} {W : WX} {p pos pos2 : Pos} {k : Nat} (hc : X.calm = true) (T : XTxt X.prog X.K kd C D fI cc cda) (gC : X.mg x = some (.ref C)) (hr : Room k X.A) (tk : Takes X W) (ha : PA X [a] ta) (hg : Gl X x := by rfl) (hdb : (x == ("__debug__" : Str)) = false := by decide)
    (he : starEach (a :: []) X.env = (false, eval a X.env) :: starEach [] X.env := by rfl) (hpl : (backTo pos (starEach [] X.env)).any (·.1) = false := by rfl) :
    PS X (.Raise (some (.Call (.Name x p) [a] [] pos)) none pos2) (tRaiseP kd C W ta) := ps_raise hc tk (pmk_part T gC hr ha hg hdb he hpl)
end
/-! ### an exception held as a value, behind the suite that caught it -/
def ExV (cls : Value) (d : Option Addr) (a : Addr) : HO := .ext fun h => ∃ (oe : Obj) (vs : Array Value), h.get? a = some oe ∧ Zc cls d oe ∧ oe.data = .fields vs
theorem exV_ok {P : Program} {w : World} {H : Hp} {h : Heap} {a : Addr} {cls : Value} {d : Option Addr} {oe : Obj} {vs : Array Value} (e : h.get? a = some oe) (z : Zc cls d oe) (hd : oe.data = .fields vs) : ObjOk P w H h a (ExV cls d a) :=
  ⟨⟨oe, vs, e, z, hd⟩, ⟨oe, e⟩, fun _ _ ⟨o, v, q, r⟩ k => ⟨o, v, k o q, r⟩⟩
section
variable {X : Cx} {pins : List (Addr × Obj)} {σ : St} {H : Hp} {s : Shared}
/-- a pinned object of ours, new since the entry, is tracked from now on -/
theorem Inv.track {a : Addr} {oe : Obj} {vs : Array Value} {cls : Value} {d : Option Addr} (I : Inv X (pins ++ [(a, oe)]) σ H s) (h0 : X.s_0.heap.get? a = none) (hp : ∀ p ∈ X.pn ++ pins, p.1 ≠ a) (hz : Zc cls d oe) (hd : oe.data = .fields vs) :
    Inv X pins σ (upd H a (ExV cls d a)) s := by
  obtain ⟨ha, na, nL, nF, nC⟩ := I.pin (a, oe) (List.mem_append_right _ (List.mem_append_right _ List.mem_cons_self))
  have ha : s.heap.get? a = some oe := ha
  have na : H a = none := na
  have neS : ∀ b u, H b = some u → b ≠ a := fun b u e => ne_of_none e na
  have ne0 : ∀ b o, X.s_0.heap.get? b = some o → b ≠ a := fun b o e z => by rw [z, h0] at e; cases e
  refine ⟨I.ok, I.os, I.bare, ⟨I.base.keep, I.base.slot, fun b o e n hx => ?_, I.base.there, fun b xs e => ?_, fun b o u e => ?_, fun b ps e => ?_⟩, I.loc, I.cell, ?_, fun x c e => ?_, fun p hpp => ?_, fun b u e => ?_, I.len⟩
  · rw [upd_ne (ne0 b o e)]
    exact I.base.free b o e n hx
  · have q := I.base.tups b xs e
    rw [upd_ne (neS b _ q)]
    exact q
  · have q := I.base.frzs b o u e
    rw [upd_ne (neS b _ q)]
    exact q
  · obtain ⟨m, q⟩ := I.base.tbls b ps e
    exact ⟨m, by rw [upd_ne (neS b _ q)]; exact q⟩
  · rw [upd_ne (Ne.symm nL)]
    exact I.free
  · have nc : c ≠ a := fun z => by
      obtain ⟨v, o, ho, hdd⟩ := I.cell x c e
      rw [z, ha] at ho
      cases ho
      exact nC v hdd
    rw [upd_ne nc]
    exact I.freeC x c e
  · obtain ⟨e, n, ne, nf, dd⟩ := I.pin p (by
      rcases List.mem_append.mp hpp with z | z
      · exact List.mem_append_left _ z
      · exact List.mem_append_right _ (List.mem_append_left _ z))
    exact ⟨e, by rw [upd_ne (hp p hpp)]; exact n, ne, nf, dd⟩
  · by_cases hb : b = a
    · rw [hb, upd_same] at e
      cases e
      rw [hb]
      exact exV_ok ha hz hd
    · rw [upd_ne hb] at e
      refine (I.hok b u e).stay (fun c v _ q => q) (fun c q => ?_) fun c xs q => ?_
      · rw [upd_ne (neS c _ q)]
        exact q
      · rw [upd_ne (neS c _ q)]
        exact q
/-- what the clause 'except x as n: y = n' wishes: slot i is n's, slot j is y's -/
def wKeep (K : PySem.W.Frag) (c : Value) (i j : Nat) (Wout : WX) (D : Ends) : WX := fun cls d σ H =>
  ∃ b, PySem.W.exmOne K cls c = some b ∧ (b = true → ∀ a, H a = none → D.nx (((σ.set i (some (.ref a))).set j (some (.ref a))).set i none) (upd H a (ExV cls d a))) ∧ (b = false → Wout cls d σ H)
theorem ps_try_keep {x n y : Str} {c : Value} {i j : Nat} {body : List Stmt} {np pos pos' q1 q2 q3 : Pos} {tb : WX → TS} {Wout : WX} (hs : X.stack = X.env :: X.outer) (hf : X.env.frame = some X.env.locals) (hex : X.ex = []) (hN : X.N.Nodup) (hi : X.N[i]? = some n) (hln : X.env.kindOf n = some .local)
    (hj : X.N[j]? = some y) (hlj : X.env.kindOf y = some .local) (hij : i ≠ j) (hc : Names X x c) (tk : Takes X Wout)
    (hb : ∀ (W : WX) (pn : List (Addr × Obj)) (xe : Value → Shared → Prop), Takes (X.tr pn xe) W → PassesOwn (model X.prog X.w) X.A X.env xe → PSs (X.tr pn xe) body (tb W))
    (hdn : (n == ("__debug__" : Str)) = false := by decide) (hcd : (n == ("__classdict__" : Str)) = false := by decide)
    (hsw : ∀ env' : Env, swapsWith (.Name n q2) (some (.Name y q1)) q3.line env' = pure false := by intro _; rfl) :
    PS X (.Try body [.ExceptHandler (some (.Name x np)) (some n) [.Assign [.Name y q1] (.Name n q2) q3] pos'] [] [] pos) (fun D σ H => tb (wKeep X.K c i j Wout D) D σ H) := by
  refine ⟨fun pins s σ H D I h => ?_⟩
  have ok := I.ok
  have hfr : X.A.frames = some (X.env :: X.outer) := by rw [ok.frames, hs]
  have hloc : Loc X.env.scope n := .inl hln
  have hlocj : Loc X.env.scope y := .inl hlj
  refine wpAny_Try_except ?_
  refine wpAny_mono ((hb (wKeep X.K c i j Wout D) (X.pn ++ pins) (fun e s₁ => wpAny (model X.prog X.w) X.A (noteFrame e X.env) (fun _ s₂ => wpAny (model X.prog X.w) X.A (setFlight e none) (fun _ s₃ =>
    wpAny (model X.prog X.w) X.A (handleBy e X.env [.ExceptHandler (some (.Name x np)) (some n) [.Assign [.Name y q1] (.Name n q2) q3] pos']) (SP X pins D) X.xe s₃) X.xe s₂) X.xe s₁) (fun u s' xx => ?_) PassesOwn.looking).run [] s σ H D (I.toTry _) h) (fun f s1 hsp => ?_) (fun e s1 he => he)
  · -- the catch
    obtain ⟨a, B, sI, pins', σ', H', cls, d, rfl, J', nb, up, sky, na, os, ag, b, hb1, hyes, hno⟩ := xx
    have J : Inv X pins σ' H' sI := J'.ofTry ok
    have sky' : Sky B (X.env :: X.outer) a (Zc cls d) X.env.locals s'.heap := by rw [← hs]; exact sky
    show wpAny (model X.prog X.w) X.A (noteFrame (.ref a) X.env) _ _ _
    refine Sky.land Zc.steady hfr hf sky' fun h3 fl3 up3 => ?_
    have J3 : Inv X pins σ' H' { s' with heap := h3 } := J.landed nb fl3.1 (up.trans up3) os ag
    obtain ⟨oe3, vs3, he3, hz3, hd3⟩ := fl3.there
    have notFr : ∀ {h : Heap} {o : Obj} {vs : Array Value}, h.FunFrames B (X.env :: X.outer) → h.get? a = some o → o.data = .fields vs → a ∉ frs (X.env :: X.outer) := fun {h o vs} ff e dd hm => by
      obtain ⟨_, o', e', hnf⟩ := ff.mem hm
      rw [e] at e'; cases e'
      exact hnf _ dd
    have nfr := notFr fl3.2.2.1 he3 hd3
    have nL : a ≠ X.env.locals := fun z => nfr (List.mem_filterMap.mpr ⟨X.env, List.mem_cons_self, by rw [hf, z]⟩)
    have nF : a ∉ X.fs := fun hm => by
      obtain ⟨e, he, q⟩ := List.mem_filterMap.mp hm
      exact nfr (List.mem_filterMap.mpr ⟨e, List.mem_cons_of_mem _ he, q⟩)
    -- a is new
    have nB : B.get? a = none := fl3.2.1
    have nI : sI.heap.get? a = none := by
      cases e : sI.heap.get? a with
      | none => rfl
      | some o =>
        have z := nb a o e (by rw [hs]; exact nfr)
        rw [nB] at z
        cases z
    have n0 : X.s_0.heap.get? a = none := by
      cases e : X.s_0.heap.get? a with
      | none => rfl
      | some o =>
        obtain ⟨o', z⟩ := J.base.there a o e (by rw [hex]; exact fun z => nomatch z)
        rw [nI] at z
        cases z
    have newp : ∀ p ∈ X.pn ++ pins, p.1 ≠ a := fun p hp z => by
      obtain ⟨e, _⟩ := J.pin p hp
      rw [z, nI] at e
      cases e
    have S3 := J3.suite he3 hd3 na nL nF
    refine wpAny_handleBy_cons (codeAny_handlers_test ?_) (by intro q; cases q)
    have LT : PySem.W.Looks (model X.prog X.w) h3 (typeOf (.ref a)) cls := fun A Q E s k q => wpAny_typeOf_ref (k _ _ he3) (by rw [hz3.1]; exact q)
    have LM := PySem.W.exm_one (M := model X.prog X.w) (J3.kIn) LT hb1
    have test : ∀ {Q : Value → Shared → Prop} {E : Value → Shared → Prop}, Q c { s' with heap := h3 } → wpAny (model X.prog X.w) (X.A.mark (some (.ref a))) (eval (.Name x np) X.env) Q E { s' with heap := h3 } := fun {Q E} q => by
      obtain ⟨hg, hdbg, hm | ⟨hm, hv, hnn⟩⟩ := hc
      · exact ld_glob (X := X.suite a ((a, oe3) :: (X.pn ++ pins))) S3 hg hm q hdbg
      · exact ld_blt (X := X.suite a ((a, oe3) :: (X.pn ++ pins))) S3 hg hm hv q hnn hdbg
    refine test (LM.here ?_)
    cases b with
    | true =>
      refine codeAny_handlers_suite_as ?_
      refine HandSPX.lands_againZ fl3 fun h4 fl4 up4 => ?_
      have J4 : Inv X pins σ' H' { s' with heap := h4 } := J.landed nb fl4.1 ((up.trans up3).trans up4) os ag
      obtain ⟨oe4, vs4, he4, hz4, hd4⟩ := fl4.there
      have S4 := J4.suite he4 hd4 na nL nF
      refine store_ok (X := X.suite a ((a, oe4) :: (X.pn ++ pins))) (v := .ref a) S4 hN hi hloc rfl (fun s5 S5 => ?_) (.inr hln)
      have hiσ : i < σ'.length := by rw [J.len]; exact (List.getElem?_eq_some_iff.mp hi).1
      have suite : PSs (X.suite a ((a, oe4) :: (X.pn ++ pins))) [.Assign [.Name y q1] (.Name n q2) q3] (tAsg (tVar i) (gName j)) :=
        pss_one (ps_set (i := j) hN hj hlocj (pe_var hi (.inl hln) hdn hcd) (hsw _) (.inr hlj))
      refine wpAny_mono (suite.run [] s5 _ H' { nx := fun σ6 H6 => σ6 = (σ'.set i (some (.ref a))).set j (some (.ref a)) ∧ H6 = H', rt := fun _ _ => False } S5 ⟨.ref a, List.getElem?_set_self hiσ, rfl, rfl⟩) (fun f s6 hsp => ?_) (fun _ _ z => False.elim z)
      cases f with
      | next =>
        obtain ⟨σ6, H6, S6, e6, e7⟩ := hsp
        rw [e6, e7] at S6
        have U6 : Inv X (pins ++ [(a, oe4)]) ((σ'.set i (some (.ref a))).set j (some (.ref a))) H' s6 := (S6.unsuite ok).pins_of fun (p : Addr × Obj) (hp : p ∈ pins ++ [(a, oe4)]) => by
          rcases List.mem_append.mp hp with z | z
          · exact (S6.unsuite ok).pin p (List.mem_append_right _ z)
          · have e : p = (a, oe4) := by simpa using z
            subst e
            exact S6.pin (a, oe4) (List.mem_append_left _ List.mem_cons_self)
        refine gone_ok U6 hN hi hln fun s7 J7 => ?_
        exact ⟨_, _, J7.track n0 newp hz4 hd4, hyes rfl a na⟩
      | brk =>
        obtain ⟨σ6, H6, S6, q6⟩ := hsp
        exact q6.elim
      | cont =>
        obtain ⟨σ6, H6, S6, q6⟩ := hsp
        exact q6.elim
      | ret u =>
        obtain ⟨v6, σ6, H6, S6, r6, q6⟩ := hsp
        exact q6.elim
    | false =>
      show wpAny _ X.A (handleBy (.ref a) X.env []) _ _ _
      refine wpAny_handleBy_nil ?_
      obtain ⟨k1, k2, k3, oe, vs, T, oT, ts', he, hz, hd, h1, hr⟩ := id fl3
      unfold PySem.passOn
      refine wpAny_bind (wpAny_field he hd h1 ?_)
      rw [if_neg (show ¬ ((Value.ref T == Value.none) = true) from by simp)]
      have fin : wpAny (model X.prog X.w) X.A (setFlight (.ref a) X.env.frame) (fun _ s4 => wpAny (model X.prog X.w) X.A (throw (.ref a) : Sem Flow) (SP X pins D) X.xe s4) X.xe { s' with heap := h3 } := by
        rw [hf]
        refine HandSPX.setFlight_upZ fl3 fun h4 hh4 up4 => wpAny_throw (tk _ _ ?_)
        exact ⟨a, B, sI, pins, σ', H', cls, d, rfl, J, nb, (up.trans up3).trans up4, .inr (.inr (by rw [hs]; exact hh4)), na, os, ag, hno rfl⟩
      first
        | exact wpAny_bind (wpAny_pure (wpAny_bind fin))
        | exact wpAny_bind fin
  · cases f with
    | next =>
      obtain ⟨σ', H', J', q⟩ := hsp
      exact wpAny_execs_nil ⟨σ', H', J'.ofTry ok, q⟩
    | brk =>
      obtain ⟨σ', H', J', q⟩ := hsp
      exact ⟨σ', H', J'.ofTry ok, q⟩
    | cont =>
      obtain ⟨σ', H', J', q⟩ := hsp
      exact ⟨σ', H', J'.ofTry ok, q⟩
    | ret u =>
      obtain ⟨v, σ', H', J', r, q⟩ := hsp
      exact ⟨v, σ', H', J'.ofTry ok, r, q⟩
end
/-! ### isinstance(e, c), e.f -/
/-- what the class C of such a value must say -/
structure XC (K : PySem.W.Frag) (C : Addr) : Prop where
  ga : PySem.W.findIn K (.ref C) "__getattribute__" = some (some (.builtin "BaseException.__getattribute__"))
  gg : PySem.W.findIn K (.ref C) "__getattr__" = some none
  ex : PySem.W.subIn K (.ref C) (.type "BaseException") = some true
  hd : PySem.W.hasDictIn K C = true
  ha : PySem.W.findIn K (.ref C) "__class__" = some (some (.builtin "object.__class__"))
  hn : PySem.W.specialIn K (.builtin "object.__class__") "__get__" = some (some (.builtin "getset_descriptor.__get__"))
  ht : PySem.W.takesIn K (.builtin "object.__class__") = some true
  hm : PySem.W.mroIn K C (.type "object") = some true
/-- the dict of the exception is told -/
def XD (H : Hp) (d : Option Addr) (fs : List (Str × V)) : Prop := (d = none ∧ fs = []) ∨ ∃ dd, d = some dd ∧ H dd = some (.xd fs)
def rIsX (K : PySem.W.Frag) : List V → Hp → VK → Prop := fun xs H Q => ∃ (a C : Addr) (d : Option Addr) (fs : List (Str × V)) (c : V) (u : Value) (b : Bool), xs = [.ref a, c] ∧ ClsV c u ∧ H a = some (ExV (.ref C) d a) ∧ XD H d fs ∧ XC K C ∧ PySem.W.kitOne K (.ref C) u = some b ∧ Q (.bl b) H
section
variable {X : Cx}
theorem inst_ex {H : Hp} {h : Heap} {P : Program} {w : World} {a C : Addr} {d : Option Addr} {fs : List (Str × V)} (hok : HOk P w H h) (ha : H a = some (ExV (.ref C) d a)) (hd : XD H d fs) : ∃ ox od, PySem.W.InstAt h a ox C od ∧ ∀ v f, fs.lookup f = some v → ∃ u, PySem.W.lookIn f (od.getD ox) = some (some u) ∧ RelV v u ∧ od.isSome = true := by
  obtain ⟨⟨oe, vs, he, hz, hdat⟩, _, _⟩ := hok a _ ha
  have nc : PySem.W.notCls oe = true := by unfold PySem.W.notCls; rw [hdat] <;> rfl
  rcases hd with ⟨e1, e2⟩ | ⟨dd, e1, hdd⟩
  · subst e1 e2
    refine ⟨oe, none, ⟨he, hz.1, nc, by rw [hz.2]; trivial⟩, fun v f e => ?_⟩
    cases e
  · subst e1
    obtain ⟨mA, hns, hr⟩ := hok dd _ hdd
    obtain ⟨od, ho, hl⟩ := lookIn_ns hns
    refine ⟨oe, some od, ⟨he, hz.1, nc, by rw [hz.2]; exact ho⟩, fun v f e => ?_⟩
    obtain ⟨u, hu, ru⟩ := RelO.some_of (v := v) (o := mA f) (by rw [← e]; exact hr f)
    exact ⟨u, by show PySem.W.lookIn f od = _; rw [hl, hu], ru, rfl⟩
theorem call_isX : CallR X (.builtin "isinstance") (rIsX X.K) := by
  intro pins s σ H xs us Q I r h
  obtain ⟨a, C, d, fs, c, u, b, rfl, k, ha, hd, T, e, q⟩ := h
  obtain ⟨u1, u2, rfl, r1, r2⟩ := vals2 r
  have e2 := k.eq r2
  subst e2
  cases (show u1 = Value.ref a from r1)
  obtain ⟨ox, od, J, _⟩ := inst_ex I.hok ha hd
  have hcl : (PySem.W.clsIn X.K C).isSome = true := by
    obtain ⟨cd, hc, _⟩ := PySem.W.any_some T.hd
    rw [hc]
    rfl
  exact PySem.W.kia_one (PySem.W.kitx_exc hcl T.ga T.gg T.ex T.ha T.hn T.ht T.hm) I.kIn J e (fun z => nomatch z) fun tk => ⟨.bl b, H, I.tok tk, rfl, q⟩
/-- isinstance(x, c): x any value, or an exception that is held -/
def rIsA (K : PySem.W.Frag) : List V → Hp → VK → Prop := fun x H Q => rIsX K x H Q ∨ rIsi K x H Q
theorem call_isA : CallR X (.builtin "isinstance") (rIsA X.K) := call_isX.or call_isi
/-- e.f -/
def tXFld (K : PySem.W.Frag) (f : Str) (te : TE) : TE := fun σ H Q => te σ H fun x H1 => ∃ (a C dd : Addr) (fs : List (Str × V)) (v : V), x = .ref a ∧ H1 a = some (ExV (.ref C) (some dd) a) ∧ H1 dd = some (.xd fs) ∧ XC K C ∧ PySem.W.findIn K (.ref C) f = some none ∧ fs.lookup f = some v ∧ Q v H1
theorem pe_xfld {e : Expr} {te : TE} {pos : Pos} {n : Str} (he : PE X e te) (hb : attributeBase e n X.env (eval e X.env) = eval e X.env := by rfl) : PE X (.Attribute e n pos) (tXFld X.K n te) := by
  refine ⟨fun pins s σ H Q I h => ?_⟩
  refine attr_of hb (thn (he.run pins s σ H _ I h) fun u s1 hh => ?_)
  obtain ⟨x, H1, I1, rx, a, C, dd, fs, v, ex, ha, hd, T, hno, l, q⟩ := hh
  subst ex
  obtain rfl : u = Value.ref a := rx
  obtain ⟨⟨oe, vs, he', hz, hdat⟩, _, _⟩ := I1.hok a _ ha
  obtain ⟨mA, hns, hr⟩ := (show ObjOk X.prog X.w H1 s1.heap dd (.xd fs) from I1.hok dd _ hd)
  obtain ⟨od, ho, hl⟩ := lookIn_ns hns
  obtain ⟨u, hu, ru⟩ := RelO.some_of (v := v) (o := mA n) (by rw [← l]; exact hr n)
  have J : PySem.W.InstAt s1.heap a oe C (some od) := ⟨he', hz.1, by unfold PySem.W.notCls; rw [hdat] <;> rfl, by rw [hz.2]; exact ho⟩
  exact HandSPX.exc_get I1.kIn J T.ga T.gg T.ex (PySem.W.findObj_own T.hd hno rfl (by rw [hl, hu])) (handed_of ru) ⟨v, H1, I1.tok _, ru, q⟩
end
end L2
set_option maxHeartbeats 4000000
/-! E3: a lambda handed to a def that calls it in a try, or hands it on. -/
namespace L2
open PySem PySem.Spec PyProof.Rows PySem.EX
open LamX (CodeO ExtN Tabs TabB LamS lamEnv lamCx lam_make2 lam_start2 run_ofS)
/-- what ran since the lambda was made, seen from its maker's frames fs -/
structure Later (fs : List Addr) (s0 : Shared) (H0 : Hp) (outer : List Env) (s : Shared) (H : Hp) : Prop where
  un : Un fs [] H0 H s0.heap s.heap
  fr : ∀ b ∈ frs outer, b ∉ fs → s0.heap.get? b = none
theorem Un.trans2 {fs fs2 : List Addr} {H H1 H2 : Hp} {h h1 h2 : Heap} (a : Un fs [] H H1 h h1) (b : Un fs2 [] H1 H2 h1 h2) (hn : ∀ c ∈ fs2, c ∉ fs → h.get? c = none) : Un fs [] H H2 h h2 where
  keep := fun c o q n hb hx => b.keep c o (a.keep c o q n hb hx) (a.free c o q n hx) (fun z => by rw [hn c z hb] at q; cases q) hx
  slot := fun c o q n hb hx => by
    obtain ⟨sl, e1⟩ := a.slot c o q n hb hx
    obtain ⟨sl', e2⟩ := b.any e1 (a.free c o q n hx) hx
    exact ⟨sl', e2⟩
  free := fun c o q n hx => by
    obtain ⟨o', e1⟩ := a.there c o q hx
    exact b.free c o' e1 (a.free c o q n hx) hx
  there := fun c o q hx => by
    obtain ⟨o', e1⟩ := a.there c o q hx
    exact b.there c o' e1 hx
  tups := fun c xs q => b.tups c xs (a.tups c xs q)
  frzs := fun c o xs q => b.frzs c o xs (a.frzs c o xs q)
  tbls := fun c ps q => by
    obtain ⟨m1, e1⟩ := a.tbls c ps q
    obtain ⟨m2, e2⟩ := b.tbls c _ e1
    exact ⟨m1 ++ m2, by rw [e2, Array.append_assoc]⟩
/-- the callable at f: tl E H Q is what its call asks -/
abbrev TL := XK → Hp → VK → Prop
def Acts (P : Program) (w : World) (K : PySem.W.Frag) (mg : Str → Option Value) (base : Heap) (fs : List Addr) (s0 : Shared) (H0 : Hp) (f c' : Addr) (q : Str) (k : Nat) (tl : TL) : Prop :=
  ∀ (A : Around) (outer : List Env) (s : Shared) (H : Hp) (Q : VK) (E : XK), Later fs s0 H0 outer s H → Room k A → Env0 P w K mg base A outer s H → H c' = some (CodeO c' q) → tl E H Q → codeAny (model P w) A (.call (.ref f) ⟨[], []⟩) (CR (L2.CX P w) outer P w H s Q E) s
section
variable {X : Cx} {pins : List (Addr × Obj)} {σ : St} {H : Hp} {s : Shared}
theorem lam_acts {f c' : Addr} {pm ctv : Value} {params : Arguments} {body : Expr} {scope : Scope} {k : Nat} {t : XK → TE}
    (I : Inv X pins σ H s) (L : LamS X.env.scope scope) (hf : s.heap.get? f = some (PySem.W.kla_obj "<lambda>" (X.env.qual ++ "<lambda>") params body scope (cloFrom X.env.cells scope.names []) pm c' ctv)) (hfn : H f = none) (hfr : f ∉ frs X.stack)
    (hbind : bindArgs (PySem.W.kla_fn "<lambda>" (X.env.qual ++ "<lambda>") params body scope (cloFrom X.env.cells scope.names []) pm (.ref c') ctv) ⟨[], []⟩ = pure [])
    (hbody : ∀ (A : Around) (outer : List Env) (s : Shared) (H : Hp) (E : XK), Room k (A.deeper (lamEnv X scope s.heap.objs.size f c')) → PE (lamCx X A outer s H E scope f c') body (t E)) :
    Acts X.prog X.w X.K X.mg X.base (frs X.stack) s H f c' (X.env.qual ++ "<lambda>") (k + 1) (fun E H' Q => t E σ H' Q) := by
  intro A outer s1 HZ Q E lt hr e0 hc ht
  have of1 : s1.heap.get? f = some (PySem.W.kla_obj "<lambda>" (X.env.qual ++ "<lambda>") params body scope (cloFrom X.env.cells scope.names []) pm c' ctv) := lt.un.keep f _ hf hfn hfr (fun z => nomatch z)
  obtain ⟨⟨oc, vs, tt, hoc, hdc, hvc⟩, _, _⟩ := e0.hok c' _ hc
  have lim : s1.heap.NoLimit := e0.mod.nolimit.keeps fun b o e => (e0.bs b o e).1
  refine PySem.W.kla_callFunE hr.depth of1 rfl L.co L.gen rfl ⟨c', oc, vs, tt, rfl, hoc, hdc, hvc⟩ ?_
  rw [hbind]
  refine wpAny_pure (wpAny_newFunctionEnv (fun y hy => (L.own y hy).2) (fun y hy => absurd hy (by simp)) (fun h₁ hns hsb => ⟨lim.fresh _ hsb, ?_⟩) L.kind)
  show codeAny _ _ (.expr body (lamEnv X scope s1.heap.objs.size f c')) _ _
  have kp : ∀ b o, s1.heap.get? b = some o → h₁.get? b = some o := fun b o e => hsb.extBut b o (Nat.ne_of_lt (Heap.lt_size e)) (Heap.get?_push_of_some _ e)
  have J : Inv (lamCx X A outer s1 HZ E scope f c') [] σ HZ { s1 with heap := h₁, toks := s1.toks + ([] : List (Str × Value)).length } :=
    lam_start2 I L e0 hr.hd lt.un hns kp
  refine PySem.W.kla_codeExpr (wpAny_mono ((hbody _ _ s1 HZ E (hr.deeper _)).run [] _ _ HZ Q J ht) (fun v s' hq => ?_) fun e s' hq => hq)
  obtain ⟨w', H', J', rv, q⟩ := hq
  exact ⟨w', H', J'.os, J'.bare, J'.base, J'.hok, rv, q⟩
end
/-- from a def's body that runs later -/
theorem Later.at_ {fs : List Addr} {s0 : Shared} {H0 : Hp} {CXg : CXT} {P : Program} {w : World} {K : PySem.W.Frag} {mg : Str → Option Value} {base : Heap} {N : List Str} {qg : Str} {sg : Scope} {g : Addr} {cdg : Value} {A : Around} {outer : List Env} {s : Shared} {H : Hp} {E : XK}
    {pn : List (Addr × Obj)} {xe : Value → Shared → Prop} {pins : List (Addr × Obj)} {σ1 : St} {H1 : Hp} {s1 : Shared} (lt : Later fs s0 H0 outer s H) (I : Inv ((cxOf CXg P w K mg base N qg sg g cdg A outer s H E).tr pn xe) pins σ1 H1 s1) :
    Later fs s0 H0 (envOfC qg sg s.heap.objs.size g cdg :: outer) s1 H1 := by
  have u2 : Un (frs outer) [] H H1 s.heap s1.heap := I.base
  have sz : ∀ b o, s0.heap.get? b = some o → ∃ o', s.heap.get? b = some o' := fun b o e => lt.un.there b o e (by simp)
  refine ⟨lt.un.trans2 u2 lt.fr, fun b hb hn => ?_⟩
  have hb' : b = s.heap.objs.size ∨ b ∈ frs outer := by
    have z : b ∈ s.heap.objs.size :: frs outer := hb
    exact List.mem_cons.mp z
  rcases hb' with e | e
  · cases q : s0.heap.get? b with
    | none => rfl
    | some o =>
      obtain ⟨o', z⟩ := sz b o q
      rw [e] at z
      exact absurd (Heap.lt_size z) (Nat.lt_irrefl _)
  · exact lt.fr b e hn
/-- a function object of the maker's, not tracked -/
def FnO (fs : List Addr) (s0 : Shared) (H0 : Hp) (f : Addr) : Prop := ∃ (oc : Value) (od : Option Addr) (fd : FuncData) (sl : Array (Option Value)), s0.heap.get? f = some ⟨oc, od, .func fd, sl⟩ ∧ H0 f = none ∧ f ∉ fs
section
variable {fs : List Addr} {s0 : Shared} {H0 : Hp} {CXg : CXT} {P : Program} {w : World} {K : PySem.W.Frag} {mg : Str → Option Value} {base : Heap} {N : List Str} {qg : Str} {sg : Scope} {g : Addr} {cdg : Value} {A : Around} {outer : List Env} {s : Shared} {H : Hp} {Eg : XK}
  {pn : List (Addr × Obj)} {xe : Value → Shared → Prop}
/-- a(), a the callable that the def got -/
theorem pe_acts {f c' : Addr} {q : Str} {k i : Nat} {tl : TL} {a : Str} {W : WX} {E : XK} {p1 p2 : Pos} (lt : Later fs s0 H0 outer s H) (F : Acts P w K mg base fs s0 H0 f c' q k tl)
    (hf : FnO fs s0 H0 f)
    (tk : Takes ((cxOf CXg P w K mg base N qg sg g cdg A outer s H Eg).tr pn xe) W) (hW : ∀ cls d σ' H', σ'.length = N.length → E cls d H' → W cls d σ' H') (hr : Room k (A.deeper (envOfC qg sg s.heap.objs.size g cdg)))
    (hN : N[i]? = some a) (hv : Vis sg a) (hd : (a == ("__debug__" : Str)) = false := by decide) (hcd : (a == ("__classdict__" : Str)) = false := by decide) :
    PE ((cxOf CXg P w K mg base N qg sg g cdg A outer s H Eg).tr pn xe) (.Call (.Name a p1) [] [] p2) (fun σZ HZ Q => σZ[i]? = some (some (.ref f)) ∧ HZ c' = some (CodeO c' q) ∧ tl E HZ Q) := by
  refine ⟨fun pinsZ sZ σZ HZ Q IZ h => ?_⟩
  obtain ⟨hs, hc, ht⟩ := h
  refine wpAny_Call_Name_kw (thn ((pe_var (pos := p1) (i := i) hN hv hd hcd).run pinsZ sZ σZ HZ (fun v H1 => v = .ref f ∧ H1 = HZ) IZ ⟨.ref f, hs, rfl, rfl⟩) fun u s1 ⟨v, H1, I1, r1, q1⟩ => ?_)
  obtain ⟨ev, eH⟩ := q1
  subst ev
  rw [eH] at I1
  obtain rfl : u = Value.ref f := r1
  have lt1 := lt.at_ I1
  obtain ⟨oc, od, fd, sl, ho, h0, hfs⟩ := hf
  have of1 := lt1.un.keep f _ ho h0 hfs (fun z => nomatch z)
  refine PySem.W.callWith_F0 ⟨_, _, _, _, of1⟩ ?_
  have rc := F _ _ s1 HZ Q E lt1 hr I1.env0 hc ht
  refine wpAny_call (codeAny_mono rc fun r s' hq => ?_)
  cases r with
  | error e =>
    refine tk e s' ?_
    have x := XE.of_call (W := fun c d σ H => σ.length = N.length → W c d σ H) I1 (fun cls d H' h hl => hW cls d σZ H' hl h) hq
    obtain ⟨a', B, sI, pins', σ', H', cls, d, e1, I', nb, up, sky, na, os, ag, w'⟩ := x
    exact ⟨a', B, sI, pins', σ', H', cls, d, e1, I', nb, up, sky, na, os, ag, w' I'.len⟩
  | ok fl =>
    cases fl with
    | ret u => exact I1.after hq
    | next => exact False.elim hq
    | brk => exact False.elim hq
    | cont => exact False.elim hq
end
/-- the def at g takes a callable: TT tl H Q is what its call asks (it lets nothing out) -/
def Takes1 (P : Program) (w : World) (K : PySem.W.Frag) (mg : Str → Option Value) (base : Heap) (g : Addr) (j k : Nat) (TT : TL → Hp → VK → Prop) : Prop :=
  ∀ (fs : List Addr) (s0 : Shared) (H0 : Hp) (f c' : Addr) (q : Str) (tl : TL) (A : Around) (outer : List Env) (s : Shared) (H : Hp) (Q : VK), Acts P w K mg base fs s0 H0 f c' q k tl → FnO fs s0 H0 f →
    Later fs s0 H0 outer s H → Room (j + k) A → Env0 P w K mg base A outer s H → H c' = some (CodeO c' q) → TT tl H Q → codeAny (model P w) A (.call (.ref g) ⟨[.ref f], []⟩) (CR CX0 outer P w H s Q E0) s
theorem ps_exprM {X : Cx} {e : Expr} {te : TE} {pos : Pos} (he : PE X e te) (hs : swapsWith e none pos.line X.env = pure false := by rfl) : PS X (.Expr e pos) (fun D σ H => ∃ Qn : VK, (∀ v H1, Qn v H1 → D.nx σ H1) ∧ te σ H Qn) := by
  refine ⟨fun pins s σ H D I h => ?_⟩
  obtain ⟨Qn, hq, h⟩ := h
  exact wpAny_Expr_any (thn (he.run pins s σ H _ I h) fun u s1 ⟨v, H1, I1, r1, q⟩ => ⟨σ, H1, I1, hq v H1 q⟩) I.quiet hs
/-- try: a() / except x as e: found = e -/
def TCaught (K : PySem.W.Frag) (CS : Addr) : TL → Hp → VK → Prop := fun tl H Q =>
  tl (fun cls d H' => ∃ b, PySem.W.exmOne K cls (.ref CS) = some b ∧ (b = true → ∀ a, H' a = none → Q (.ref a) (upd H' a (ExV cls d a))) ∧ (b = false → False)) H (fun _ H' => Q .non H')
section
variable {P : Program} {w : World} {K : PySem.W.Frag} {mg : Str → Option Value} {base : Heap}
theorem caught_takes {g CS : Addr} {name : Str} {params : Arguments} {body : List Stmt} {scope : Scope} {dV kV doc pm cdv ct oc : Value} {an od : Option Addr} {osl : Array (Option Value)} {k : Nat} {i0 : Nat} {p1 p2 p3 p4 p5 p6 p7 p8 p9 p10 p11 p12 p13 p14 : Pos}
    (lk : K.lookup g = some ⟨oc, od, .func (PySem.W.fnOf name name params body scope dV kV doc pm an cdv ct), osl⟩) (hcd : PySem.W.codeIn K cdv name = true) (S : FnScope ["work", "found", "error"] ["work"] scope)
    (hb : body = [.Assign [.Name "found" p1] (.Constant .none i0 p2) p3, .Try [.Expr (.Call (.Name "work" p4) [] [] p5) p6] [.ExceptHandler (some (.Name "NetError" p7)) (some "error") [.Assign [.Name "found" p8] (.Name "error" p9) p10] p11] [] [] p12, .Return (some (.Name "found" p13)) p14])
    (hbind : ∀ us : List Value, us.length = 1 → bindArgs (PySem.W.fnOf name name params body scope dV kV doc pm an cdv ct) ⟨us, []⟩ = pure ((["work"] : List Str).zip us))
    (h1 : scope.names.lookup ("work" : Str) = some .local) (h2 : scope.names.lookup ("found" : Str) = some .local) (h3 : scope.names.lookup ("error" : Str) = some .local) (hge : scope.names.lookup ("NetError" : Str) = some .globalImplicit) (hme : mg "NetError" = some (.ref CS)) :
    Takes1 P w K mg base g 1 k (TCaught K CS) := by
  intro fs s0 H0 f c' q tl A outer s H Q F hf lt hr e0 hc ht
  have hr1 : Room (k + 1) A := by rw [Nat.add_comm]; exact hr
  refine run_ofS (N := ["work", "found", "error"]) (ps := ["work"]) (us := [.ref f]) (vs := [.ref f]) (k := k) (E := E0) (CX := CX0) lk hcd S hr1 e0 (BindsTo.of_eq (hbind _ rfl)) (.cons rfl .nil) rfl fun hr' => ?_
  subst hb
  refine ⟨_, PSs.nox (pss_cons (ps_set (i := 1) S.nd rfl (.inl h2) pe_non) (pss_cons (ps_try_keep (i := 2) (j := 1) (c := .ref CS) (Wout := fun _ _ _ _ => False)
      (tb := fun W D σ H => ∃ Ech : XK, (∀ cls d σ' H', σ'.length = 3 → Ech cls d H' → W cls d σ' H') ∧ σ[0]? = some (some (.ref f)) ∧ H c' = some (CodeO c' q) ∧ ∃ Qn : VK, (∀ v H1, Qn v H1 → D.nx σ H1) ∧ tl Ech H Qn)
      rfl rfl rfl S.nd rfl h3 rfl h2 (by decide) ⟨hge, by decide, .inl hme⟩ LamX.takes0 (fun W pn xe tk _ => ?_)) (pss_one (ps_ret (pe_var (i := 1) rfl (.inl h2)))))), ?_⟩
  · refine ⟨fun pins s' σ H' D I h' => ?_⟩
    obtain ⟨Ech, hW, q1, q2, Qn, hq, q3⟩ := h'
    have hp := pe_acts (CXg := CX0) (Eg := E0) (i := 0) (p1 := p4) (p2 := p5) (pn := pn) (xe := xe) (E := Ech) lt F hf tk hW hr' rfl (.inl h1)
    exact (pss_one (ps_exprM hp)).run pins s' σ H' D I ⟨Qn, hq, q1, q2, q3⟩
  · refine ⟨fun cls d H' => ∃ b, PySem.W.exmOne K cls (.ref CS) = some b ∧ (b = true → ∀ a, H' a = none → Q (.ref a) (upd H' a (ExV cls d a))) ∧ (b = false → False), fun cls d σ' H' hl h => ?_, rfl, hc, fun _ H' => Q .non H', fun v H1 q => ⟨_, rfl, q⟩, ht⟩
    · obtain ⟨b, e1, e2, e3⟩ := h
      refine ⟨b, e1, fun hb a na => ?_, fun hb => e3 hb⟩
      match σ', hl with
      | [_, _, _], _ => exact ⟨_, rfl, e2 hb a na⟩
end
section
variable {X : Cx}
/-- x(lambda: body) -/
theorem pe_lam1 {T : List (Addr × Str)} {TT : TL → Hp → VK → Prop} {x : Str} {g c Pt : Addr} {j k : Nat} {params : Arguments} {body : Expr} {scope : Scope} {t : XK → TE} {p lpos pos : Pos}
    (G : Takes1 X.prog X.w X.K X.mg X.base g j (k + 1) TT) (hm : X.mg x = some (.ref g)) (hk : PySem.W.keepIn X.K (.ref g) = true) (TB : TabB X.base X.mg c Pt) (hcode : X.env.code = .ref c) (hmT : (Pt, X.env.qual ++ "<lambda>") ∈ T) (hu : ∀ p ∈ T, p.1 = Pt → p.2 = X.env.qual ++ "<lambda>")
    (hr : Room (j + (k + 1)) X.A) (L : LamS X.env.scope scope)
    (hbody : ∀ (A : Around) (outer : List Env) (s : Shared) (H : Hp) (E : XK) (f c' : Addr), Room k (A.deeper (lamEnv X scope s.heap.objs.size f c')) → PE (lamCx X A outer s H E scope f c') body (t E))
    (hg : Gl X x := by rfl) (hdef : defaultsOf params X.env = ([], []) := by rfl)
    (hbind : ∀ (q : Str) (cl : List (Str × Addr)) (pm cv ctv : Value), bindArgs (PySem.W.kla_fn "<lambda>" q params body scope cl pm cv ctv) ⟨[], []⟩ = pure [] := by intros; rfl)
    (hdb : (x == ("__debug__" : Str)) = false := by decide) :
    PE X (.Call (.Name x p) [.Lambda params body scope lpos] [] pos) (LamX.tLam T TT t) := by
  refine ⟨fun pins s σ H Q I h => ?_⟩
  obtain ⟨hT, h⟩ := h
  refine wpAny_Call_Name_kw (ld_glob I hg hm ?_ hdb)
  refine PySem.W.callWith_K (h₀ := X.base) I.ok.mod.kin hk ?_ (by rfl) (by rfl)
  show wpAny _ _ (spliced ((false, eval (.Lambda params body scope lpos) X.env) :: backTo pos (starEach [] X.env))) _ _ s
  refine Calls.spliced_cons (lam_make2 I TB hcode hmT hu hT hdef (L.has I.ok) fun f c' pm' ctv H1 s' I1 eN T1 hf hfn hfr hco => ?_)
  refine Calls.spliced_nil ⟨I1.kIn, ?_⟩
  have F := lam_acts (k := k) (t := t) I1 L hf hfn hfr (hbind _ _ _ _ _) (fun A outer s H E hr2 => hbody A outer s H E f c' hr2)
  have rc : codeAny (model X.prog X.w) X.A (.call (.ref g) ⟨[.ref f], []⟩) (CR CX0 X.stack X.prog X.w H1 s' Q E0) s' :=
    G (frs X.stack) s' H1 f c' _ _ X.A X.stack s' H1 Q F ⟨_, _, _, _, hf, hfn, hfr⟩ ⟨Un.refl, fun b hb hn => absurd hb hn⟩ hr I1.env0 hco (h H1 eN T1)
  refine wpAny_call (codeAny_mono rc fun r s2 hq => ?_)
  cases r with
  | error e => exact (show False from hq).elim
  | ok fl =>
    cases fl with
    | ret u => exact I1.after hq
    | next => exact False.elim hq
    | brk => exact False.elim hq
    | cont => exact False.elim hq
end
end L2
set_option maxHeartbeats 4000000
/-! E4: defs as one fact each. -/
namespace L2
open PySem PySem.Spec PyProof.Rows PySem.EX
/-- a def of the module by its name, with its promise -/
structure Fnc (P : Program) (w : World) (K : PySem.W.Frag) (mg : Str → Option Value) (base : Heap) (CX : CXT) (k : Nat) (x : Str) (ps : List Str) (sp : Sp) : Prop where
  ex : ∃ (f : Addr) (fd : FuncData), FnOk P w K mg base CX k f fd ps sp ∧ mg x = some (.ref f) ∧ PySem.W.keepIn K (.ref f) = true ∧ Binds K fd ps []
/-- what the head tells of a def -/
def Def (K : PySem.W.Frag) (mg : Str → Option Value) (x : Str) (st : Stmt) : Prop := (∃ fd, FunD K x x (defArgs st) (defBody st) (defScope st) [] [] (He.ga K x) fd) ∧ mg x = some (.ref (He.ga K x))
def tFn (sp : Sp) (E : XK) (t : TA) : TE := fun σ H Q => t σ H fun vs H1 => sp vs H1 Q E
section
variable {P : Program} {w : World} {K : PySem.W.Frag} {mg : Str → Option Value} {base : Heap}
/-- THE RULE for a def -/
theorem fnc {CX : CXT} {k : Nat} {x : Str} {st : Stmt} {N ps : List Str} {sp : Sp} (D : Def K mg x st) (S : FnScope N ps (defScope st)) (len : ∀ vs H Q E, sp vs H Q E → vs.length = ps.length)
    (hbind : ∀ (kV doc pm : Value) (an : Option Addr) (cdv ct : Value) (us : List Value), us.length = ps.length → bindArgs (PySem.W.fnOf x x (defArgs st) (defBody st) (defScope st) .none kV doc pm an cdv ct) ⟨us, []⟩ = pure (ps.zip us))
    (hbody : ∀ (cdv : Value) (A : Around) (outer : List Env) (s : Shared) (H : Hp) (vs : List V) (Q : VK) (E : XK), Room k (A.deeper (envOfC x (defScope st) s.heap.objs.size (He.ga K x) cdv)) → sp vs H Q E →
      ∃ t, PSs (cxOf CX P w K mg base N x (defScope st) (He.ga K x) cdv A outer s H E) (defBody st) t ∧ t { nx := fun _ H' => Q .non H', rt := Q } (start N vs) H) : Fnc P w K mg base CX (k + 1) x ps sp := by
  obtain ⟨⟨fd, F⟩, g⟩ := D
  exact ⟨_, fd, F.ok S len hbody, g, F.kp, F.bindsN hbind⟩
/-- .. of a def that lets nothing out -/
theorem fnc0 {k : Nat} {x : Str} {st : Stmt} {N ps : List Str} {sp : Sp} (D : Def K mg x st) (S : FnScope N ps (defScope st)) (len : ∀ vs H Q E, sp vs H Q E → vs.length = ps.length)
    (hbind : ∀ (kV doc pm : Value) (an : Option Addr) (cdv ct : Value) (us : List Value), us.length = ps.length → bindArgs (PySem.W.fnOf x x (defArgs st) (defBody st) (defScope st) .none kV doc pm an cdv ct) ⟨us, []⟩ = pure (ps.zip us))
    (hbody : ∀ (cdv : Value) (A : Around) (outer : List Env) (s : Shared) (H : Hp) (vs : List V) (Q : VK) (E : XK), Room k (A.deeper (envOfC x (defScope st) s.heap.objs.size (He.ga K x) cdv)) → sp vs H Q E →
      ∃ t, PSs (cxOf CX0 P w K mg base N x (defScope st) (He.ga K x) cdv A outer s H E).nox (defBody st) t ∧ t { nx := fun _ H' => Q .non H', rt := Q } (start N vs) H) : Fnc P w K mg base CX0 (k + 1) x ps sp :=
  fnc D S len hbind fun cdv A outer s H vs Q E hr h => by
    obtain ⟨t, h1, h2⟩ := hbody cdv A outer s H vs Q E hr h
    exact ⟨t, h1.nox, h2⟩
end
section
variable {X : Cx} {CX : CXT} {k : Nat} {x : Str} {ps : List Str} {sp : Sp} {E : XK} {p pos : Pos} {e : Expr} {es : List Expr} {t : TA}
theorem pe_fn (F : Fnc X.prog X.w X.K X.mg X.base CX k x ps sp) (hr : Room k X.A) (hx : Passes CX X E) (ha : PA X (e :: es) t) (hg : Gl X x := by rfl) (hdb : (x == ("__debug__" : Str)) = false := by decide)
    (he : starEach (e :: es) X.env = (false, eval e X.env) :: starEach es X.env := by rfl) (hpl : (backTo pos (starEach es X.env)).any (·.1) = false := by rfl) : PE X (.Call (.Name x p) (e :: es) [] pos) (tFn sp E t) := by
  obtain ⟨f, fd, ok, g, kp, b⟩ := F.ex
  have h := pe_call (p := p) (pos := pos) ok hr hg g kp b .nil hx ha hdb he hpl
  refine ⟨fun pins s σ H Q I q => h.run pins s σ H Q I ?_⟩
  show t σ H fun vs H1 => sp (vs ++ []) H1 Q E
  have e0 : (fun (vs : List V) (H1 : Hp) => sp (vs ++ []) H1 Q E) = fun vs H1 => sp vs H1 Q E := by
    funext vs H1
    rw [List.append_nil]
  rw [e0]
  exact q
theorem pe_fn0 (F : Fnc X.prog X.w X.K X.mg X.base CX k x ps sp) (hr : Room k X.A) (hx : Passes CX X E) (hg : Gl X x := by rfl) (hdb : (x == ("__debug__" : Str)) = false := by decide) : PE X (.Call (.Name x p) [] [] pos) (tFn sp E tNil) := by
  obtain ⟨f, fd, ok, g, kp, b⟩ := F.ex
  exact pe_call0 (p := p) (pos := pos) ok hr hg g kp b .nil hx hdb
end
theorem Fnc.imp {P : Program} {w : World} {K : PySem.W.Frag} {mg : Str → Option Value} {base : Heap} {CX : CXT} {k : Nat} {x : Str} {ps : List Str} {sp sp' : Sp} (F : Fnc P w K mg base CX k x ps sp) (h : ∀ vs H Q E, sp' vs H Q E → sp vs H Q E) : Fnc P w K mg base CX k x ps sp' := by
  obtain ⟨f, fd, ok, r⟩ := F.ex
  exact ⟨f, fd, ok.imp h, r⟩
end L2
set_option maxHeartbeats 4000000
/-! E5: the tape of the draws: what it is, the promises of the law's own helpers. -/
namespace L2
open PySem PySem.Spec PyProof.Rows PySem.EX
abbrev kLarge : Key := Sum.inr "large"
abbrev kRest : Key := Sum.inr "rest"
abbrev kCells : Key := Sum.inr "cells"
abbrev kTurn : Key := Sum.inr "turn"
def tapeL (l c : Addr) (r n : Int) : List (Key × V) := [(kLarge, .ref l), (kRest, .int r), (kCells, .ref c), (kTurn, .int n)]
theorem key_ne {a b : Str} (h : a ≠ b) : ¬ (Sum.inr a : Key) = Sum.inr b := fun q => h (Sum.inr.inj q)
theorem sLR : ¬ ("large" : Str) = "rest" := by decide +kernel
theorem sLT : ¬ ("large" : Str) = "turn" := by decide +kernel
theorem sRT : ¬ ("rest" : Str) = "turn" := by decide +kernel
theorem sTR : ¬ ("turn" : Str) = "rest" := by decide +kernel
theorem sCR : ¬ ("cells" : Str) = "rest" := by decide +kernel
theorem sCT : ¬ ("cells" : Str) = "turn" := by decide +kernel
theorem nLR : ¬ kLarge = kRest := key_ne (by decide +kernel)
theorem nLC : ¬ kLarge = kCells := key_ne (by decide +kernel)
theorem nLT : ¬ kLarge = kTurn := key_ne (by decide +kernel)
theorem nRC : ¬ kRest = kCells := key_ne (by decide +kernel)
theorem nRT : ¬ kRest = kTurn := key_ne (by decide +kernel)
theorem nCT : ¬ kCells = kTurn := key_ne (by decide +kernel)
theorem tape_large (l c : Addr) (r n : Int) : valV (tapeL l c r n) kLarge = some (.ref l) := valV_pos rfl
theorem tape_rest (l c : Addr) (r n : Int) : valV (tapeL l c r n) kRest = some (.int r) := (valV_neg nLR).trans (valV_pos rfl)
theorem tape_cells (l c : Addr) (r n : Int) : valV (tapeL l c r n) kCells = some (.ref c) := (valV_neg nLC).trans ((valV_neg nRC).trans (valV_pos rfl))
theorem tape_turn (l c : Addr) (r n : Int) : valV (tapeL l c r n) kTurn = some (.int n) := (valV_neg nLT).trans ((valV_neg nRT).trans ((valV_neg nCT).trans (valV_pos rfl)))
theorem put_rest (l c : Addr) (r n z : Int) : putK (tapeL l c r n) kRest (.int z) = tapeL l c z n := by
  simp [putK, tapeL, sLR, sCR, sTR]
theorem put_turn (l c : Addr) (r n z : Int) : putK (tapeL l c r n) kTurn (.int z) = tapeL l c r z := by
  simp [putK, tapeL, sLT, sRT, sCT]
theorem sLC : ¬ ("large" : Str) = "cells" := by decide +kernel
theorem sRC : ¬ ("rest" : Str) = "cells" := by decide +kernel
theorem merge_tape (l c : Addr) (r n : Int) : mergeK [] (tapeL l c r n) = tapeL l c r n := by
  simp [mergeK, tapeL, putK, sLR, sLT, sRT, sCT, sLC, sRC]
section
variable {H : Hp} {t l c : Addr} {r n : Int}
theorem dg_large (h : H t = some (.dK (tapeL l c r n))) : DGet H t (.str "large") (some (.ref l)) := by rw [← tape_large l c r n]; exact DGet.k (k := kLarge) h
theorem dg_rest (h : H t = some (.dK (tapeL l c r n))) : DGet H t (.str "rest") (some (.int r)) := by rw [← tape_rest l c r n]; exact DGet.k (k := kRest) h
theorem dg_cells (h : H t = some (.dK (tapeL l c r n))) : DGet H t (.str "cells") (some (.ref c)) := by rw [← tape_cells l c r n]; exact DGet.k (k := kCells) h
theorem dg_turn (h : H t = some (.dK (tapeL l c r n))) : DGet H t (.str "turn") (some (.int n)) := by rw [← tape_turn l c r n]; exact DGet.k (k := kTurn) h
theorem dp_rest (z : Int) (h : H t = some (.dK (tapeL l c r n))) : DPut H t (.str "rest") (.int z) (upd H t (.dK (tapeL l c z n))) := by rw [← put_rest l c r n z]; exact DPut.k (k := kRest) h (by show 4 < sizeLine; decide)
theorem dp_turn (z : Int) (h : H t = some (.dK (tapeL l c r n))) : DPut H t (.str "turn") (.int z) (upd H t (.dK (tapeL l c r z))) := by rw [← put_turn l c r n z]; exact DPut.k (k := kTurn) h (by show 4 < sizeLine; decide)
end
/-- the tape stands at t, its large numbers at l, its cells at c -/
structure Tape (H : Hp) (t l c : Addr) : Prop where
  ex : ∃ (r n : Int) (lg cs : List Int), H t = some (.dK (tapeL l c r n)) ∧ H l = some (.lst (lg.map V.int)) ∧ H c = some (.lst (cs.map V.int))
  lc : l ≠ c
theorem Tape.tl {H : Hp} {t l c : Addr} (T : Tape H t l c) : t ≠ l := by
  obtain ⟨r, n, lg, cs, h1, h2, _⟩ := T.ex
  exact ne_of h1 h2 (by intro z; cases z)
theorem Tape.tc {H : Hp} {t l c : Addr} (T : Tape H t l c) : t ≠ c := by
  obtain ⟨r, n, lg, cs, h1, _, h2⟩ := T.ex
  exact ne_of h1 h2 (by intro z; cases z)
/-- all else stands -/
def But (t l : Addr) (H H' : Hp) : Prop := ∀ b o, H b = some o → b ≠ t → b ≠ l → H' b = some o
theorem But.refl {t l : Addr} {H : Hp} : But t l H H := fun _ _ h _ _ => h
theorem But.trans {t l : Addr} {H H1 H2 : Hp} (a : But t l H H1) (b : But t l H1 H2) : But t l H H2 := fun c o h h1 h2 => b c o (a c o h h1 h2) h1 h2
theorem But.of {t l : Addr} {H H' : Hp} (a : Same H H') : But t l H H' := fun c o h _ _ => a c o h
theorem But.free {t l p : Addr} {H H' : Hp} (a : But t l H H') (ht : p ≠ t) (hl : p ≠ l) (h : H' p = none) : H p = none := by
  cases q : H p with
  | none => rfl
  | some o => rw [a p o q ht hl] at h; cases h
theorem But.seq {K : PySem.W.Frag} {t l a : Addr} {H H' : Hp} {xs : List V} (e : But t l H H') (ht : a ≠ t) (hl : a ≠ l) (h : SqL K H a xs) : SqL K H' a xs := by
  rcases h with (h | ⟨o, h⟩) | h
  · exact .inl (.inl (e _ _ h ht hl))
  · exact .inl (.inr ⟨o, e _ _ h ht hl⟩)
  · exact .inr h
theorem Same.upd {H : Hp} {p : Addr} {o : HO} (h : H p = none) : Same H (L2.upd H p o) := fun b u e => by rw [upd_ne (ne_of_none e h)]; exact e
theorem Same.tape {H H' : Hp} {t l c : Addr} (a : Same H H') (T : Tape H t l c) : Tape H' t l c := by
  obtain ⟨r, n, lg, cs, h1, h2, h3⟩ := T.ex
  exact ⟨⟨r, n, lg, cs, a _ _ h1, a _ _ h2, a _ _ h3⟩, T.lc⟩
theorem map_get {α : Type} {f : α → V} {l : List α} {i : Nat} {x : V} (h : (l.map f)[i]? = some x) : ∃ z, l[i]? = some z ∧ x = f z := by
  rw [List.getElem?_map] at h
  cases e : l[i]? with
  | none => rw [e] at h; cases h
  | some z => rw [e] at h; exact ⟨z, rfl, (Option.some.inj h).symm⟩
theorem line1000 {n : Nat} (h : n ≤ 1000) : n ≤ sizeLine := Nat.le_trans h (by decide)
theorem Same.put {H H2 : Hp} {D : Addr} {o : HO} (s : Same H H2) (h : H D = none) : Same H (L2.upd H2 D o) := fun b u e => by rw [upd_ne (ne_of_none e h)]; exact s b u e
theorem Same.free' {H H' : Hp} (e : Same H H') {l : Addr} (h : H' l = none) : H l = none := e.free h
theorem map_snoc {α : Type} {f : α → V} (l : List α) (x : α) : l.map f ++ [f x] = (l ++ [x]).map f := by simp
theorem atI_int {α : Type} {xs : List α} {d : Int} {v : α} (h0 : 0 ≤ d) (h : xs[d.toNat]? = some v) : atI xs d = some v := by
  have e : d = (d.toNat : Int) := by omega
  rw [e]
  exact atI_nat h
theorem erase_permI {α : Type} : ∀ {l : List α} {i : Nat} {z : α}, l[i]? = some z → (z :: l.eraseIdx i).Perm l
  | [], i, z, h => by simp at h
  | a :: l, 0, z, h => by
    have e : a = z := Option.some.inj h
    subst e
    exact .refl _
  | a :: l, i + 1, z, h => by
    have q := erase_permI (l := l) (i := i) (z := z) h
    exact (List.Perm.swap a z _).trans (q.cons a)
theorem perm_erase {α : Type} {l xs f : List α} {i : Nat} {z : α} (h : l[i]? = some z) (p : (f ++ l).Perm xs) : ((f ++ [z]) ++ l.eraseIdx i).Perm xs := by
  have q : (f ++ (z :: l.eraseIdx i)).Perm (f ++ l) := (erase_permI h).append_left f
  rw [List.append_assoc]
  exact q.trans p
theorem map_erase {α β : Type} (f : α → β) : ∀ (l : List α) (i : Nat), (l.map f).eraseIdx i = (l.eraseIdx i).map f
  | [], _ => by simp
  | _ :: _, 0 => rfl
  | a :: l, i + 1 => by
    show f a :: (l.map f).eraseIdx i = f a :: (l.eraseIdx i).map f
    rw [map_erase f l i]
theorem seqIx {d : Int} {n : Nat} (h0 : 0 ≤ d) (h1 : d < n) : seqIndex? d n = some d.toNat := by
  have h : ¬ d < 0 := by omega
  simp [seqIndex?, h, h0, h1]
/-! ### promises -/
def spBegun (K : PySem.W.Frag) : Sp := fun vs H Q _ => ∃ (a : Addr) (ns : List Int), vs = [.ref a] ∧ SqL K H a (ns.map V.int) ∧ ns.length ≤ 63 ∧
  ∀ (t l c : Addr) (H' : Hp), Same H H' → H t = none → H l = none → H c = none → Tape H' t l c → Q (.ref t) H'
def spBlend : Sp := fun vs H Q _ => ∃ (t l c : Addr), vs = [.ref t] ∧ Tape H t l c ∧ ∀ (v : Int) (H' : Hp), Tape H' t l c → (∀ b o, H b = some o → b ≠ t → H' b = some o) → Q (.int v) H'
def spDraw : Sp := fun vs H Q _ => ∃ (t l c : Addr) (m : Int), vs = [.ref t, .int m] ∧ 0 < m ∧ m < 1073741824 ∧ Tape H t l c ∧ ∀ (d : Int) (H' : Hp), 0 ≤ d → d < m → Tape H' t l c → But t l H H' → Q (.int d) H'
def spPick (K : PySem.W.Frag) : Sp := fun vs H Q _ => ∃ (t l c a : Addr) (xs : List V), vs = [.ref t, .ref a] ∧ SqL K H a xs ∧ xs ≠ [] ∧ xs.length < 1073741824 ∧ a ≠ t ∧ a ≠ l ∧ Tape H t l c ∧
  ∀ (i : Nat) (v : V) (H' : Hp), xs[i]? = some v → Tape H' t l c → But t l H H' → Q v H'
def spShuf (K : PySem.W.Frag) : Sp := fun vs H Q _ => ∃ (t l c a : Addr) (xs : List Int), vs = [.ref t, .ref a] ∧ SqL K H a (xs.map V.int) ∧ xs.length < 1000 ∧ Tape H t l c ∧
  ∀ (ys : List Int) (p : Addr) (H' : Hp), ys.Perm xs → H p = none → H' p = some (.lst (ys.map V.int)) → Tape H' t l c → But t l H H' → Q (.ref p) H'
end L2
set_option maxHeartbeats 4000000
/-! E6: data in plain Lean: lists of ints, of texts, of arrows; how they stand in a heap. -/
namespace L2
open PySem PySem.Spec PyProof.Rows PySem.EX
section
variable {α : Type} {f : α → PyData}
theorem lay_map (h : ∀ a, (f a).canLay0 = true) : ∀ l : List α, PyData.canLayAll0 (l.map f) = true
  | [] => rfl
  | a :: l => by rw [List.map_cons, PyData.canLayAll0, h a, lay_map h l] <;> rfl
theorem lay_mem : ∀ {l : List α}, (∀ a ∈ l, (f a).canLay0 = true) → PyData.canLayAll0 (l.map f) = true
  | [], _ => rfl
  | a :: l, h => by rw [List.map_cons, PyData.canLayAll0, h a List.mem_cons_self, lay_mem fun b hb => h b (List.mem_cons_of_mem _ hb)] <;> rfl
theorem dep_map {n : Nat} (h : ∀ a, (f a).depth ≤ n) : ∀ l : List α, PyData.depthAll (l.map f) ≤ n
  | [] => Nat.zero_le _
  | a :: l => by
    rw [List.map_cons, PyData.depthAll]
    exact Nat.max_le.mpr ⟨h a, dep_map h l⟩
theorem eqv_map [DecidableEq α] (h : ∀ a b, (f a).eqv (f b) = decide (a = b)) : ∀ l m : List α, PyData.eqvAll (l.map f) (m.map f) = decide (l = m)
  | [], [] => by simp [PyData.eqvAll]
  | [], _ :: _ => by simp [PyData.eqvAll]
  | _ :: _, [] => by simp [PyData.eqvAll]
  | a :: l, b :: m => by
    rw [List.map_cons, List.map_cons, PyData.eqvAll, h a b, eqv_map h l m]
    by_cases e : a = b <;> by_cases e2 : l = m <;> simp [e, e2]
theorem shaped_of {d : PyData} (h : d.canLay0 = true) (n : d.depth ≤ 64) : SeqAt.shaped d = true := by
  unfold SeqAt.shaped
  rw [h, decide_eq_true n] <;> rfl
end
/-! ### ints -/
theorem eqv_int (i j : Int) : (PyData.int i).eqv (.int j) = decide (i = j) := by
  rw [PyData.eqv, Bool.beq_eq_decide_eq]
theorem eqv_str (i j : Str) : (PyData.str i).eqv (.str j) = decide (i = j) := by
  rw [PyData.eqv, Bool.beq_eq_decide_eq]
theorem eqv_ints (l m : List Int) : (PyData.list (l.map .int)).eqv (.list (m.map .int)) = decide (l = m) := by
  rw [PyData.eqv]
  exact eqv_map eqv_int l m
theorem shaped_ints (l : List Int) : SeqAt.shaped (.list (l.map .int)) = true :=
  shaped_of (by rw [PyData.canLay0]; exact lay_map (fun _ => rfl) l) (by rw [PyData.depth]; exact Nat.succ_le_succ (Nat.le_trans (dep_map (n := 0) (fun _ => Nat.le_refl _) l) (by decide)))
section
variable {K : PySem.W.Frag} {H : Hp}
theorem dp_all {α : Type} {f : α → PyData} {g : α → V} (h : ∀ a, Dp K H (g a) (f a)) : ∀ l : List α, DpAll K H (l.map g) (l.map f)
  | [] => .nil
  | a :: l => .cons (h a) (dp_all h l)
theorem dp_ints {a : Addr} {l : List Int} (h : SqL K H a (l.map V.int)) : Dp K H (.ref a) (.list (l.map .int)) := .lst h (dp_all (fun i => .int i) l)
theorem dp_nil {a : Addr} (h : SqL K H a []) : Dp K H (.ref a) (.list []) := .lst h .nil
end
theorem eqv_nilL (l : List PyData) : (PyData.list l).eqv (.list []) = l.isEmpty := by
  cases l <;> rw [PyData.eqv] <;> simp [PyData.eqvAll]
theorem shaped_nil : SeqAt.shaped (.list []) = true := shaped_of rfl (by decide)
/-! ### texts -/
theorem shaped_strs {l : List Str} (h : ∀ x ∈ l, (PyData.str x).canLay0 = true) : SeqAt.shaped (.list (l.map .str)) = true :=
  shaped_of (by rw [PyData.canLay0]; exact lay_mem h) (by rw [PyData.depth]; exact Nat.succ_le_succ (Nat.le_trans (dep_map (n := 0) (fun _ => Nat.le_refl _) l) (by decide)))
theorem eqv_strs (l m : List Str) : (PyData.list (l.map .str)).eqv (.list (m.map .str)) = decide (l = m) := by
  rw [PyData.eqv]
  exact eqv_map eqv_str l m
theorem dp_strs {K : PySem.W.Frag} {H : Hp} {a : Addr} {l : List Str} (h : SqL K H a (l.map V.str)) : Dp K H (.ref a) (.list (l.map .str)) := .lst h (dp_all (fun i => .str i) l)
/-! ### arrows: triples of ints -/
abbrev Ar := Int × Int × Int
def arL (a : Ar) : List Int := [a.1, a.2.1, a.2.2]
def arD (a : Ar) : PyData := .tuple ((arL a).map .int)
theorem arL_inj {a b : Ar} (h : arL a = arL b) : a = b := by
  obtain ⟨a1, a2, a3⟩ := a
  obtain ⟨b1, b2, b3⟩ := b
  simp [arL] at h
  obtain ⟨h1, h2, h3⟩ := h
  rw [h1, h2, h3]
theorem eqv_ar (a b : Ar) : (arD a).eqv (arD b) = decide (a = b) := by
  unfold arD
  rw [PyData.eqv, eqv_map eqv_int]
  by_cases e : a = b
  · subst e; simp
  · rw [decide_eq_false e, decide_eq_false fun q => e (arL_inj q)]
theorem lay_ar (a : Ar) : (arD a).canLay0 = true := by
  unfold arD
  rw [PyData.canLay0]
  exact lay_map (fun _ => rfl) _
theorem dep_ar (a : Ar) : (arD a).depth ≤ 1 := by
  unfold arD
  rw [PyData.depth]
  exact Nat.succ_le_succ (dep_map (n := 0) (fun _ => Nat.le_refl _) _)
/-- an arrow stands at the value v -/
def ArV (H : Hp) (v : V) (a : Ar) : Prop := ∃ p, v = .ref p ∧ H p = some (.tup ((arL a).map V.int))
abbrev Ars (H : Hp) : List V → List Ar → Prop := Paired (ArV H)
theorem ArV.keep {H H' : Hp} {v : V} {a : Ar} (h : ArV H v a) (k : ∀ b xs, H b = some (.tup xs) → H' b = some (.tup xs)) : ArV H' v a := by
  obtain ⟨p, e, h⟩ := h
  exact ⟨p, e, k _ _ h⟩
theorem Paired.imp {α β : Type} {F G : α → β → Prop} (f : ∀ a b, F a b → G a b) : ∀ {l : List α} {m : List β}, Paired F l m → Paired G l m
  | _, _, .nil => .nil
  | _, _, .cons h t => .cons (f _ _ h) (Paired.imp f t)
theorem Ars.keep {H H' : Hp} {vs : List V} {as : List Ar} (h : Ars H vs as) (k : ∀ b xs, H b = some (.tup xs) → H' b = some (.tup xs)) : Ars H' vs as := Paired.imp (fun _ _ h => h.keep k) h
theorem Same.tups {H H' : Hp} (s : Same H H') : ∀ b xs, H b = some (.tup xs) → H' b = some (.tup xs) := fun b xs e => s b _ e
/-- the tape's writes touch no tuple -/
theorem But.tups {H H' : Hp} {t l c : Addr} (s : But t l H H') (T : Tape H t l c) : ∀ b xs, H b = some (.tup xs) → H' b = some (.tup xs) := fun b xs e => by
  obtain ⟨r, n, lg, cs, h1, h2, _⟩ := T.ex
  exact s b _ e (ne_of e h1 (by intro z; cases z)) (ne_of e h2 (by intro z; cases z))
section
variable {K : PySem.W.Frag} {H : Hp}
theorem ArV.dp {v : V} {a : Ar} (h : ArV H v a) : Dp K H v (arD a) := by
  obtain ⟨p, e, h⟩ := h
  rw [e]
  exact .tup (SqT.of h) (dp_all (fun i => .int i) _)
theorem Ars.dp : ∀ {vs : List V} {as : List Ar}, Ars H vs as → DpAll K H vs (as.map arD)
  | _, _, .nil => .nil
  | _, _, .cons h t => .cons h.dp (Ars.dp t)
end
theorem shaped_ars (as : List Ar) : SeqAt.shaped (.tuple (as.map arD)) = true :=
  shaped_of (by rw [PyData.canLay0]; exact lay_map lay_ar as) (by rw [PyData.depth]; exact Nat.le_trans (Nat.succ_le_succ (dep_map dep_ar as)) (by decide))
theorem shaped_arsL (as : List Ar) : SeqAt.shaped (.list (as.map arD)) = true :=
  shaped_of (by rw [PyData.canLay0]; exact lay_map lay_ar as) (by rw [PyData.depth]; exact Nat.le_trans (Nat.succ_le_succ (dep_map dep_ar as)) (by decide))
theorem eqv_ars (as bs : List Ar) : (PyData.tuple (as.map arD)).eqv (.tuple (bs.map arD)) = decide (as = bs) := by
  rw [PyData.eqv]
  exact eqv_map eqv_ar as bs
theorem Ars.length {H : Hp} {vs : List V} {as : List Ar} (h : Ars H vs as) : vs.length = as.length := Paired.length h
end L2
set_option maxHeartbeats 4000000
/-! E7: sorted of data of any shape, over the layer; arrows in order. -/
namespace L2
open PySem PySem.Spec PyProof.Rows PySem.EX
open PySem.W (EachIs AllAlike Sortable dataLe sorted_data)
/-- sorted(xs): every item with its data -/
def rSortG (K : PySem.W.Frag) : List V → Hp → VK → Prop := fun vs H Q => ∃ (a : Addr) (bs : List (V × PyData)), vs = [V.ref a] ∧ SqL K H a (bs.map (·.1)) ∧ (∀ b ∈ bs, Dp K H b.1 b.2) ∧ AllAlike (bs.map (·.2)) ∧ Sortable (bs.map (·.2)) ∧ (∀ b ∈ bs, b.2.depth ≤ 8) ∧
  ∀ p, H p = none → Q (.ref p) (upd H p (.lst ((bs.mergeSort (dataLe false (·.2))).map (·.1))))
theorem each_vals : ∀ {bs : List (V × PyData)} {us : List Value}, Vals (bs.map (·.1)) us → EachIs (fun v (b : V × PyData) => RelV b.1 v) us bs
  | [], _, r => by
    have r' : Vals [] _ := r
    cases r'
    exact .nil
  | b :: bs, _, r => by
    have r' : Vals (b.1 :: bs.map (·.1)) _ := r
    cases r' with
    | cons h t => exact .cons h (each_vals t)
theorem vals_each : ∀ {bs : List (V × PyData)} {us : List Value}, EachIs (fun v (b : V × PyData) => RelV b.1 v) us bs → Vals (bs.map (·.1)) us
  | _, _, .nil => .nil
  | _, _, .cons h t => .cons h (vals_each t)
theorem each_reads {X : Cx} {pins : List (Addr × Obj)} {σ : St} {H : Hp} {s : Shared} (I : Inv X pins σ H s) : ∀ {bs : List (V × PyData)} {us : List Value}, (∀ b ∈ bs, Dp X.K H b.1 b.2) → Vals (bs.map (·.1)) us → EachIs (fun v (b : V × PyData) => ∃ as, Reads s.heap v b.2 as) us bs
  | [], _, _, r => by
    have r' : Vals [] _ := r
    cases r'
    exact .nil
  | b :: bs, _, h, r => by
    have r' : Vals (b.1 :: bs.map (·.1)) _ := r
    cases r' with
    | cons h1 t => exact .cons (Dp.reads I b.2 b.1 _ (h b List.mem_cons_self) h1) (each_reads I (fun c hc => h c (List.mem_cons_of_mem _ hc)) t)
theorem cr_sortG {X : Cx} (hu : X.A.units + 64 < cLine) : CallR X (.builtin "sorted") (rSortG X.K) := by
  intro pins s σ H vs us Q I r h
  obtain ⟨a, bs, rfl, hs, hd, hal, hso, hdp, q⟩ := h
  obtain ⟨its, rv, hl, hz⟩ := I.list hs
  rw [Vals.ref1 r]
  rw [List.length_map] at hz
  refine sorted_data (R := fun v (b : V × PyData) => RelV b.1 v) (enc := fun b => b.2) hl.isList (each_vals rv) (each_reads I hd rv) hal hso hz (fun b hb => by have := hdp b hb; omega) fun out h1 h2 => ?_
  have h3 := vals_each h2
  obtain ⟨ep, he'⟩ := PyProof.Rows.sortedAll_at s.heap its (List.toArray out)
  have hlen : ((bs.mergeSort (dataLe false fun b => b.2)).map (·.1)).length ≤ sizeLine := by
    rw [List.length_map, List.length_mergeSort]
    exact hz
  exact ⟨.ref _, upd H (s.heap.objs.size + 1) (.lst ((bs.mergeSort (dataLe false fun b => b.2)).map (·.1))), I.laid (t' := s.toks) (fun _ _ => PyProof.Rows.sortedAll_old) (Nat.le_succ _) ⟨hlen, out, ep, h3, he'⟩, rfl, q _ (I.hok.fresh (Nat.le_succ _))⟩
/-! ### arrows in order -/
def lt3 (a b : Ar) : Prop := a.1 < b.1 ∨ (a.1 = b.1 ∧ (a.2.1 < b.2.1 ∨ (a.2.1 = b.2.1 ∧ a.2.2 < b.2.2)))
instance (a b : Ar) : Decidable (lt3 a b) := by unfold lt3; infer_instance
theorem lt3_list (a b : Ar) : arL a < arL b ↔ lt3 a b := by
  unfold arL lt3
  simp [List.cons_lt_cons_iff]
theorem lt3_irr (a : Ar) : ¬ lt3 a a := by unfold lt3; omega
theorem lt3_trans {a b c : Ar} (h1 : lt3 a b) (h2 : lt3 b c) : lt3 a c := by
  unfold lt3 at *
  omega
theorem lt3_tri (a b : Ar) : lt3 a b ∨ a = b ∨ lt3 b a := by
  obtain ⟨a1, a2, a3⟩ := a
  obtain ⟨b1, b2, b3⟩ := b
  unfold lt3
  simp only [Prod.mk.injEq]
  omega
def le3 (a b : Ar) : Bool := !decide (lt3 b a)
theorem dataLe_ar : dataLe false arD = le3 := by
  funext a b
  show (!PySem.W.dataLt (arD b) (arD a)) = _
  unfold arD le3
  rw [PySem.W.dataLt_tuple]
  have e := PySem.W.dataLt_ints (arL b) (arL a)
  unfold PySem.W.rowLt at e
  rw [e]
  by_cases h : arL b < arL a
  · rw [decide_eq_true h, decide_eq_true ((lt3_list b a).mp h)]
  · rw [decide_eq_false h, decide_eq_false fun q => h ((lt3_list b a).mpr q)]
/-- ascending without twins -/
def Asc (as : List Ar) : Prop := as.Pairwise lt3
theorem le3_total (a b : Ar) : (le3 a b || le3 b a) = true := by
  unfold le3
  rcases lt3_tri a b with h | h | h
  · have : ¬ lt3 b a := fun q => lt3_irr _ (lt3_trans h q)
    simp [this]
  · subst h
    simp [lt3_irr]
  · have : ¬ lt3 a b := fun q => lt3_irr _ (lt3_trans h q)
    simp [this]
theorem le3_trans (a b c : Ar) (h1 : le3 a b = true) (h2 : le3 b c = true) : le3 a c = true := by
  unfold le3 at *
  simp only [Bool.not_eq_true', decide_eq_false_iff_not] at *
  unfold lt3 at *
  omega
theorem sort_asc {as : List Ar} (h : as.Nodup) : Asc (as.mergeSort le3) := by
  have hp := List.pairwise_mergeSort (le := le3) le3_trans le3_total as
  have hn : (as.mergeSort le3).Nodup := (List.mergeSort_perm as le3).nodup_iff.mpr h
  have hb : (as.mergeSort le3).Pairwise (fun a b => le3 a b = true ∧ a ≠ b) := hp.and hn
  refine hb.imp fun {a b} hab => ?_
  obtain ⟨h1, h2⟩ := hab
  unfold le3 at h1
  simp only [Bool.not_eq_true', decide_eq_false_iff_not] at h1
  rcases lt3_tri a b with z | z | z
  · exact z
  · exact absurd z h2
  · exact absurd z h1
theorem sort_idA {as : List Ar} (h : Asc as) : as.mergeSort le3 = as := by
  refine List.mergeSort_of_pairwise (h.imp fun {a b} hab => ?_)
  unfold le3
  rw [decide_eq_false fun q => lt3_irr _ (lt3_trans hab q)]
  rfl
theorem alike_ar (a b : Ar) : PySem.W.alike (arD a) (arD b) = true := by
  unfold arD
  rw [PySem.W.alike]
  exact PySem.W.alike_ints _ _
theorem Ars.get {H : Hp} : ∀ {vs : List V} {as : List Ar} {i : Nat} {v : V}, Ars H vs as → vs[i]? = some v → ∃ a, as[i]? = some a ∧ ArV H v a
  | _, _, _, _, .nil, e => by simp at e
  | _, _, 0, _, .cons h _, e => ⟨_, rfl, by rw [← Option.some.inj e]; exact h⟩
  | _, _, i + 1, v, .cons _ t, e => by
    obtain ⟨a, h1, h2⟩ := Ars.get (i := i) (v := v) t (by simpa using e)
    exact ⟨a, by simpa using h1, h2⟩
theorem ars_zip {H : Hp} : ∀ {vs : List V} {as : List Ar}, Ars H vs as → ∃ l : List (V × Ar), l.map (·.1) = vs ∧ l.map (·.2) = as ∧ ∀ p ∈ l, ArV H p.1 p.2
  | _, _, .nil => ⟨[], rfl, rfl, fun _ h => nomatch h⟩
  | v :: vs, a :: as, .cons h t => by
    obtain ⟨l, e1, e2, e3⟩ := ars_zip t
    refine ⟨(v, a) :: l, by rw [List.map_cons, e1], by rw [List.map_cons, e2], fun p hp => ?_⟩
    rcases List.mem_cons.mp hp with e | hp
    · subst e; exact h
    · exact e3 p hp
theorem ars_of {H : Hp} : ∀ {l : List (V × Ar)}, (∀ p ∈ l, ArV H p.1 p.2) → Ars H (l.map (·.1)) (l.map (·.2))
  | [], _ => .nil
  | p :: l, h => .cons (h p List.mem_cons_self) (ars_of fun q hq => h q (List.mem_cons_of_mem _ hq))
/-- sorted(xs), xs a list of arrows -/
def rSortA (K : PySem.W.Frag) : List V → Hp → VK → Prop := fun vs H Q => ∃ (a : Addr) (xs : List V) (as : List Ar), vs = [V.ref a] ∧ SqL K H a xs ∧ Ars H xs as ∧ ∀ p ys, H p = none → Ars H ys (as.mergeSort le3) → Q (.ref p) (upd H p (.lst ys))
theorem cr_sortA {X : Cx} (hu : X.A.units + 64 < cLine) : CallR X (.builtin "sorted") (rSortA X.K) := by
  intro pins s σ H vs us Q I r h
  obtain ⟨a, xs, as, rfl, hs, ha, q⟩ := h
  obtain ⟨l, e1, e2, e3⟩ := ars_zip ha
  refine cr_sortG hu pins s σ H [.ref a] us Q I r ⟨a, l.map (fun p => (p.1, arD p.2)), rfl, ?_, fun b hb => ?_, ?_, ?_, fun b hb => ?_, fun p hp => ?_⟩
  · rw [List.map_map]
    have e : ((fun b : V × PyData => b.1) ∘ fun p : V × Ar => (p.1, arD p.2)) = fun p => p.1 := rfl
    rw [e, e1]
    exact hs
  · obtain ⟨p, hp, rfl⟩ := List.mem_map.mp hb
    exact (e3 p hp).dp
  · rw [List.map_map]
    exact AllAlike.of fun b b' => alike_ar _ _
  · rw [List.map_map]
    exact Sortable.tuples fun b => ⟨_, _, rfl⟩
  · obtain ⟨p, hp, rfl⟩ := List.mem_map.mp hb
    exact Nat.le_trans (dep_ar p.2) (by decide)
  · have m1 : (l.mergeSort fun p q => le3 p.2 q.2).map (fun p : V × Ar => (p.1, arD p.2)) = (l.map fun p => (p.1, arD p.2)).mergeSort (dataLe false fun b : V × PyData => b.2) := by
      refine List.map_mergeSort fun p _ q _ => ?_
      show le3 p.2 q.2 = dataLe false arD p.2 q.2
      rw [dataLe_ar]
    have m2 : (l.mergeSort fun p q => le3 p.2 q.2).map (fun p : V × Ar => p.2) = (l.map fun p => p.2).mergeSort le3 := List.map_mergeSort fun p _ q _ => rfl
    rw [← m1, List.map_map]
    refine q p _ hp ?_
    rw [← e2, ← m2]
    exact ars_of fun p hp => e3 p ((List.mergeSort_perm l _).mem_iff.mp hp)
end L2
set_option maxHeartbeats 4000000
/-! E8: == and != of two instances by their own __eq__, whatever it answers. -/
namespace PySem.W
open PySem.Builtin
section
variable {prog : Program} {w : World} {A : Around} {E : Value → Shared → Prop} {s : Shared} {K : Frag} {x C f : Addr} {ox : Obj} {od : Option Obj}
theorem check_slot_K {id owner n : String} {rest : List Value} {Q : Unit → Shared → Prop} {M : Model} (hk : builtinKind id = some .slot) (hs : splitId id = some (owner, n)) (ha : argsOk id ⟨.ref x :: rest, []⟩)
    (X : K.In s.heap) (I : InstAt s.heap x ox C od) (ho : subIn K (.ref C) (.type owner) = some true) (hq : Q () s) : wpAny M A (checkBuiltinCall id ⟨.ref x :: rest, []⟩) Q E s := by
  simp only [checkBuiltinCall, hk, hs]
  refine wpAny_bind ?_
  unfold isInstance
  refine wpAny_bind (I.type.here ((looks_subIn X ho).here ?_))
  simp only [Bool.not_true, Bool.false_eq_true, if_false]
  try refine wpAny_bind (wpAny_pure ?_)
  cases hsig : Manifest.signature? id with
  | none =>
    simp only [hsig]
    exact wpAny_pure hq
  | some sig =>
    simp only [argsOk, hsig] at ha
    have h2 : Bind.checkArgs id sig ⟨.ref x :: rest, []⟩ = pure () := ha
    show wpAny M A (Bind.checkArgs id sig ⟨.ref x :: rest, []⟩) Q E _
    rw [h2]; exact wpAny_pure hq
theorem objNe_K {y : Value} (X : K.In s.heap) (I : InstAt s.heap x ox C od) (he : findIn K (.ref C) "__eq__" = some (some (.ref f))) (hf : isFn K (.ref f) = true) (hu : A.units < cLine) {Q : Fin → Shared → Prop}
    (hcall : wpAny (model prog w) A (call (.ref f) [.ref x, y]) (fun v s' => ∃ b, v = .bool b ∧ Q (.done (.ret (.bool (!b)))) s') E s) : wpAny (model prog w) A (Builtin.«object.__ne__» ⟨[.ref x, y], []⟩) Q E s := by
  obtain ⟨h, g, d, t, os⟩ := s
  unfold Builtin.«object.__ne__»
  repeat (first
    | with_reducible refine wpAny_cRoomFor hu ?_
    | (refine wpAny_bind (m := callSpecialIfBound? (.ref x) (Str.ofString "__eq__") [y])
        (ifBound_K X I he hf (wpAny_mono hcall (fun r s' hr => by
          obtain ⟨b, rfl, hq⟩ := hr
          repeat (first | exact hq | exact wpAny_pure hq | exact wpAny_truthy_bool hq | (refine wpAny_bind (m := truthy (.bool _)) (wpAny_truthy_bool ?_)) | wp_step)) fun _ _ e => e)))
    | wp_step)
theorem ne_K {y : Addr} {oy : Obj} {ody : Option Obj} (X : K.In s.heap) (I : InstAt s.heap x ox C od) (J : InstAt s.heap y oy C ody) (he : findIn K (.ref C) "__eq__" = some (some (.ref f))) (hf : isFn K (.ref f) = true)
    (hn : findIn K (.ref C) "__ne__" = some (some (.builtin "object.__ne__"))) (hob : subIn K (.ref C) (.type "object") = some true) (hu : A.units + 1 < cLine) {Q : Value → Shared → Prop}
    (hcall : wpAny (model prog w) A.in1 (call (.ref f) [.ref x, .ref y]) (fun v s' => ∃ b, v = .bool b ∧ Q (.bool (!b)) s') E s) : wpAny (model prog w) A (richCompare .NotEq (.ref x) (.ref y)) Q E s := by
  unfold richCompare
  simp only [oneThing_ref]
  refine wpAny_holding (wpAny_bind (wpAny_cRoomFor (Nat.lt_of_succ_lt hu) ?_))
  rw [cmpInfo_NotEq]
  dsimp only
  refine wpAny_bind (I.type.here (wpAny_bind (J.type.here ?_)))
  rw [show (Value.ref C != Value.ref C) = false from by simp]
  simp only [Bool.false_eq_true, if_false]
  refine wpAny_bind (wpAny_pure ?_)
  simp only [Bool.false_eq_true, if_false]
  have one : wpAny (model prog w) A (tryCompare (.ref x) "__ne__" (.ref y)) (fun r s' => ∃ b, r = some (.bool b) ∧ Q (.bool b) s') E s := by
    unfold tryCompare
    refine wpAny_bind ?_
    simp only [callSpecialIfBound?, bindSpecialIfBound?]
    refine wpAny_holding (wpAny_bind (wpAny_bind (wpAny_bind (I.type.here ((looks_findIn X hn).here ?_)))))
    refine wpAny_bind (wpAny_askSetting (wpAny_ite ?_))
    have fin : ∀ post : Option Value → Shared → Prop, (∀ b s', Q (.bool b) s' → post (some (.bool b)) s') → wpAny (model prog w) A (call (.builtin "object.__ne__") ([.ref x] ++ [.ref y]) >>= fun v => pure (some v)) post E s := by
      intro post hp
      refine wpAny_bind (wpAny_call (codeAny_call_builtin F.cmp_object.ne.plain F.cmpEntry_ne (check_slot_K F.cmpKind_ne F.cmpSplit_ne (F.cmpArgs_ne _ _) X I hob (objNe_K (A := A.in1) X I he hf hu (wpAny_mono hcall (fun v s' hv => ?_) fun _ _ e => e)))))
      obtain ⟨b, rfl, hq⟩ := hv
      exact ⟨b, rfl, wpAny_pure (hp _ _ hq)⟩
    split
    · rw [F.cmp_object.ne.bind]
      exact wpAny_bind (wpAny_pure (wpAny_pure (fin _ fun b s' hq => wpAny_pure ⟨_, rfl, hq⟩)))
    · rw [F.cmp_object.ne.bind]
      exact wpAny_tryCatch (wpAny_bind (wpAny_pure (wpAny_pure (fin _ fun b s' hq => wpAny_pure ⟨_, rfl, hq⟩))))
  refine wpAny_bind (wpAny_mono one (fun r s' z => ?_) fun _ _ e => e)
  obtain ⟨v, rfl, hq⟩ := z
  exact wpAny_pure hq
end
end PySem.W
namespace L2
open PySem PySem.Spec PyProof.Rows PySem.EX
section
variable {X : Cx} {n : Nat}
/-- x == y, x != y by the own __eq__ whose promise is sp -/
def rEqI (C : Addr) (sp : Sp) (E : XK) (neg : Bool) : R2 := fun x y H Q => ∃ a b dx dy fs gs, x = .ref a ∧ y = .ref b ∧ H a = some (.ins C dx fs) ∧ H b = some (.ins C dy gs) ∧ sp [x, y] H (fun v H' => ∃ c, v = .bl c ∧ Q (.bl (c != neg)) H') E
theorem op_neI {CX : CXT} {C f : Addr} {fd : FuncData} {ps : List Str} {sp : Sp} {E : XK} (F : FnOk X.prog X.w X.K X.mg X.base CX n f fd ps sp)
    (hs : PySem.W.findIn X.K (.ref C) "__eq__" = some (some (.ref f))) (hf : PySem.W.isFn X.K (.ref f) = true) (hn : PySem.W.findIn X.K (.ref C) "__ne__" = some (some (.builtin "object.__ne__")))
    (hob : PySem.W.subIn X.K (.ref C) (.type "object") = some true) (hb : Binds X.K fd ps []) (hx : Passes CX X E) (hr : Room (n + 1) X.A) : OpR X (compareOp .NotEq) (rEqI C sp E true) := by
  intro pins s σ H x y v u Q I rx ry hq
  obtain ⟨a, b, dx, dy, fs, gs, rfl, rfl, ha, hb', q⟩ := hq
  cases rx
  cases ry
  obtain ⟨mA, J, _⟩ := ins_get I.hok ha
  obtain ⟨mB, J', _⟩ := ins_get I.hok hb'
  obtain ⟨od, J, _⟩ := J.look
  obtain ⟨od', J', _⟩ := J'.look
  show wpAny (model X.prog X.w) X.A (richCompare .NotEq _ _) (EP X pins σ Q) X.xe s
  refine PySem.W.ne_K I.kIn J J' hs hf hn hob hr.in1.units0 ?_
  have hl := F.len _ _ _ _ q
  have r2 : Vals [V.ref a, V.ref b] [Value.ref a, Value.ref b] := .cons rfl (.cons rfl .nil)
  have e0 : Env0 X.prog X.w X.K X.mg X.base X.A.in1 X.stack s H := by
    have e := I.env0
    exact ⟨e.frames, e.mod, e.bs, e.bsz, e.funs, e.frf, e.hok, e.bare⟩
  refine wpAny_call (codeAny_mono (F.run X.A.in1 X.stack s H ⟨[.ref a, .ref b], []⟩ [.ref a, .ref b] [.ref a, .ref b] _ E hr.in1 e0 (by
    have := hb s [.ref a, .ref b] I.kIn (by simpa using hl)
    simpa using this) r2 q) fun r s' hq => ?_)
  cases r with
  | error e => exact hx pins σ H s e s' I hq
  | ok fl =>
    cases fl with
    | ret w =>
      obtain ⟨z, H', I', rz, c, ez, q'⟩ := I.after hq
      subst ez
      cases rz
      refine ⟨c, rfl, .bl (!c), H', I', rfl, ?_⟩
      have e : (c != true) = !c := by cases c <;> rfl
      rw [← e]
      exact q'
    | next => exact False.elim hq
    | brk => exact False.elim hq
    | cont => exact False.elim hq
end
end L2
set_option maxHeartbeats 4000000
/-! E9: f(k = v): a def called by keywords alone. -/
namespace L2
open PySem PySem.Spec PyProof.Rows PySem.EX
section
variable {X : Cx} {CX : CXT} {k : Nat} {f : Addr} {fd : FuncData} {ps ks : List Str} {sp : Sp} {E : XK} {x : Str} {p pos : Pos} {kws : List Keyword} {tk : TA} {g : List Value → List Value → List Value} {gV : List V → List V → List V}
theorem pe_callN0 (F : FnOk X.prog X.w X.K X.mg X.base CX k f fd ps sp) (hr : Room k X.A) (hg : Gl X x) (hm : X.mg x = some (.ref f)) (hk : PySem.W.keepIn X.K (.ref f) = true) (hb : KBn X.K fd ps 0 ks g gV) (hx : Passes CX X E)
    (hkw : PK X kws tk) (hall : (backToKw pos (keywordEach kws X.env)).all (·.1.isSome) = true := by rfl) (hks : (backToKw pos (keywordEach kws X.env)).filterMap (·.1) = ks := by rfl)
    (hdb : (x == ("__debug__" : Str)) = false := by decide)
    (hpl : ((backTo pos (starEach [] X.env)).any (·.1) || (backToKw pos (keywordEach kws X.env)).any (·.1.isNone)) = false := by rfl) :
    PE X (.Call (.Name x p) [] kws pos) (tCallN 0 ks.length sp gV E tNil tk) := by
  refine ⟨fun pins s σ H Q I h => ?_⟩
  refine wpAny_Call_Name_kw (ld_glob I hg hm ?_ hdb)
  refine PySem.W.callWith_KW0 (h₀ := X.base) I.ok.mod.kin hk hall ?_ hpl
  refine thn (hkw.run pos pins s σ H _ I h) fun ws s2 ⟨zs, H2, I2, rz, l1, l2, q2⟩ => ⟨I2.kIn, ?_⟩
  rw [hks]
  exact run_fnN (us := []) (vs := []) F hr hb hx I2 .nil rz rfl l2 q2
end
/-- a def of one parameter, called with it by its name -/
structure Kw1 (P : Program) (w : World) (K : PySem.W.Frag) (mg : Str → Option Value) (base : Heap) (CX : CXT) (k : Nat) (x y : Str) (sp : Sp) : Prop where
  ex : ∃ (f : Addr) (fd : FuncData), FnOk P w K mg base CX k f fd [y] sp ∧ mg x = some (.ref f) ∧ PySem.W.keepIn K (.ref f) = true ∧ KBn K fd [y] 0 [y] (fun us ws => us ++ ws) (fun vs zs => vs ++ zs)
def tKw1 (sp : Sp) (E : XK) (t : TE) : TE := fun σ H Q => t σ H fun v H1 => sp [v] H1 Q E
theorem pe_kw1 {X : Cx} {CX : CXT} {k : Nat} {x y : Str} {sp : Sp} {E : XK} {e : Expr} {t : TE} {p pos kp : Pos} (F : Kw1 X.prog X.w X.K X.mg X.base CX k x y sp) (hr : Room k X.A) (hx : Passes CX X E) (ha : PE X e t) (hg : Gl X x := by rfl) (hdb : (x == ("__debug__" : Str)) = false := by decide)
    (hall : (backToKw pos (keywordEach [⟨some y, e, kp⟩] X.env)).all (·.1.isSome) = true := by rfl) (hks : (backToKw pos (keywordEach [⟨some y, e, kp⟩] X.env)).filterMap (·.1) = [y] := by rfl)
    (hpl : ((backTo pos (starEach [] X.env)).any (·.1) || (backToKw pos (keywordEach [⟨some y, e, kp⟩] X.env)).any (·.1.isNone)) = false := by rfl) : PE X (.Call (.Name x p) [] [⟨some y, e, kp⟩] pos) (tKw1 sp E t) := by
  obtain ⟨f, fd, ok, g, kp', b⟩ := F.ex
  have h := pe_callN0 (p := p) (pos := pos) ok hr hg g kp' b hx (pk_cons (kpos := kp) (nm := some y) ha pk_nil) hall hks hdb hpl
  refine ⟨fun pins s σ H Q I q => h.run pins s σ H Q I ?_⟩
  have q' : t σ H fun v H1 => sp [v] H1 Q E := q
  exact (show tCallN 0 1 sp (fun vs zs => vs ++ zs) E tNil (tCons t tNil) σ H Q from by
    show t σ H fun v H1 => _
    have e : (fun (v : V) (H1 : Hp) => sp [v] H1 Q E) = fun v H1 => (0 = 0 ∧ 1 = 1 ∧ sp [v] H1 Q E) := by
      funext v H1
      simp
    rw [e] at q'
    exact q')
theorem kw1 {P : Program} {w : World} {K : PySem.W.Frag} {mg : Str → Option Value} {base : Heap} {CX : CXT} {k : Nat} {x y : Str} {sp : Sp} {f : Addr} {st : Stmt} {fd : FuncData} (ok : FnOk P w K mg base CX k f fd [y] sp)
    (F : FunD K x x (defArgs st) (defBody st) (defScope st) [] [] f fd) (g : mg x = some (.ref f))
    (h : ∀ (kV doc pm : Value) (an : Option Addr) (cdv ct w : Value), bindArgs (PySem.W.fnOf x x (defArgs st) (defBody st) (defScope st) .none kV doc pm an cdv ct) ⟨[], [(y, w)]⟩ = pure [(y, w)]) : Kw1 P w K mg base CX k x y sp := by
  refine ⟨f, fd, ok, g, F.kp, ?_⟩
  obtain ⟨oc, od, dV, kV, doc, pm, an, cdv, ct, osl, rfl, lk, hcd, hD, hK⟩ := F.ex
  refine ⟨fun s us ws X l1 l2 => ?_, fun r z => r.append z⟩
  rcases hD with ⟨_, rfl⟩ | ⟨e, _⟩
  · match us, ws, l1, l2 with
    | [], [w], _, _ => exact .of_eq (h kV doc pm an cdv ct w)
  · exact absurd rfl e
/-- Fnc with the def's own record told -/
def FncX (P : Program) (w : World) (K : PySem.W.Frag) (mg : Str → Option Value) (base : Heap) (CX : CXT) (k : Nat) (x : Str) (st : Stmt) (ps : List Str) (sp : Sp) : Prop :=
  ∃ fd, FnOk P w K mg base CX k (He.ga K x) fd ps sp ∧ FunD K x x (defArgs st) (defBody st) (defScope st) [] [] (He.ga K x) fd ∧ mg x = some (.ref (He.ga K x)) ∧ Binds K fd ps []
theorem FncX.fnc {P : Program} {w : World} {K : PySem.W.Frag} {mg : Str → Option Value} {base : Heap} {CX : CXT} {k : Nat} {x : Str} {st : Stmt} {ps : List Str} {sp : Sp} (F : FncX P w K mg base CX k x st ps sp) : Fnc P w K mg base CX k x ps sp := by
  obtain ⟨fd, ok, D, g, b⟩ := F
  exact ⟨_, fd, ok, g, D.kp, b⟩
theorem FncX.kw {P : Program} {w : World} {K : PySem.W.Frag} {mg : Str → Option Value} {base : Heap} {CX : CXT} {k : Nat} {x y : Str} {st : Stmt} {sp : Sp} (F : FncX P w K mg base CX k x st [y] sp)
    (h : ∀ (kV doc pm : Value) (an : Option Addr) (cdv ct w : Value), bindArgs (PySem.W.fnOf x x (defArgs st) (defBody st) (defScope st) .none kV doc pm an cdv ct) ⟨[], [(y, w)]⟩ = pure [(y, w)]) : Kw1 P w K mg base CX k x y sp := by
  obtain ⟨fd, ok, D, g, b⟩ := F
  exact kw1 ok D g h
theorem fncX {P : Program} {w : World} {K : PySem.W.Frag} {mg : Str → Option Value} {base : Heap} {CX : CXT} {k : Nat} {x : Str} {st : Stmt} {N ps : List Str} {sp : Sp} (D : Def K mg x st) (S : FnScope N ps (defScope st)) (len : ∀ vs H Q E, sp vs H Q E → vs.length = ps.length)
    (hbind : ∀ (kV doc pm : Value) (an : Option Addr) (cdv ct : Value) (us : List Value), us.length = ps.length → bindArgs (PySem.W.fnOf x x (defArgs st) (defBody st) (defScope st) .none kV doc pm an cdv ct) ⟨us, []⟩ = pure (ps.zip us))
    (hbody : ∀ (cdv : Value) (A : Around) (outer : List Env) (s : Shared) (H : Hp) (vs : List V) (Q : VK) (E : XK), Room k (A.deeper (envOfC x (defScope st) s.heap.objs.size (He.ga K x) cdv)) → sp vs H Q E →
      ∃ t, PSs (cxOf CX P w K mg base N x (defScope st) (He.ga K x) cdv A outer s H E) (defBody st) t ∧ t { nx := fun _ H' => Q .non H', rt := Q } (start N vs) H) : FncX P w K mg base CX (k + 1) x st ps sp := by
  obtain ⟨⟨fd, F⟩, g⟩ := D
  exact ⟨fd, F.ok S len hbody, F, g, F.bindsN hbind⟩
end L2
set_option maxHeartbeats 4000000
/-! E10: defs whose code object is told (they make lambdas); the relation that such a def keeps. -/
namespace L2
open PySem PySem.Spec PyProof.Rows PySem.EX
open LamX (Tabs TabS ExtN CodeO TabB)
/-- what the head tells of a def that makes lambdas: c its code object -/
def DefT (K : PySem.W.Frag) (mg : Str → Option Value) (x : Str) (st : Stmt) (c : Addr) : Prop := (∃ fd, FunD K x x (defArgs st) (defBody st) (defScope st) [] [] (He.ga K x) fd ∧ fd.code = .ref c) ∧ mg x = some (.ref (He.ga K x))
section
variable {P : Program} {w : World} {K : PySem.W.Frag} {mg : Str → Option Value} {base : Heap}
theorem fncT {c : Addr} {k : Nat} {x : Str} {st : Stmt} {N ps : List Str} {sp : Sp} (D : DefT K mg x st c) (S : FnScope N ps (defScope st)) (len : ∀ vs H Q E, sp vs H Q E → vs.length = ps.length)
    (hbind : ∀ (kV doc pm : Value) (an : Option Addr) (cdv ct : Value) (us : List Value), us.length = ps.length → bindArgs (PySem.W.fnOf x x (defArgs st) (defBody st) (defScope st) .none kV doc pm an cdv ct) ⟨us, []⟩ = pure (ps.zip us))
    (hbody : ∀ (A : Around) (outer : List Env) (s : Shared) (H : Hp) (vs : List V) (Q : VK) (E : XK), Room k (A.deeper (envOfC x (defScope st) s.heap.objs.size (He.ga K x) (.ref c))) → sp vs H Q E →
      ∃ t, PSs (cxOf CX0 P w K mg base N x (defScope st) (He.ga K x) (.ref c) A outer s H E).nox (defBody st) t ∧ t { nx := fun _ H' => Q .non H', rt := Q } (start N vs) H) :
    ∃ fd, FnOk P w K mg base CX0 (k + 1) (He.ga K x) fd ps sp ∧ Binds K fd ps [] ∧ FunD K x x (defArgs st) (defBody st) (defScope st) [] [] (He.ga K x) fd := by
  obtain ⟨⟨fd, F, hc⟩, g⟩ := D
  refine ⟨fd, ?_, F.bindsN hbind, F⟩
  obtain ⟨oc, od, dV, kV, doc, pm, an, cdv, ct, osl, rfl, lk, hcd, _, _⟩ := F.ex
  have e : cdv = .ref c := hc
  subst e
  refine fn_of lk hcd S len fun A outer s H vs Q E hr hsp => ?_
  obtain ⟨t, h1, h2⟩ := hbody A outer s H vs Q E hr hsp
  exact ⟨t, h1.nox, h2⟩
theorem fncT' {c : Addr} {k : Nat} {x : Str} {st : Stmt} {N ps : List Str} {sp : Sp} (D : DefT K mg x st c) (S : FnScope N ps (defScope st)) (len : ∀ vs H Q E, sp vs H Q E → vs.length = ps.length)
    (hbind : ∀ (kV doc pm : Value) (an : Option Addr) (cdv ct : Value) (us : List Value), us.length = ps.length → bindArgs (PySem.W.fnOf x x (defArgs st) (defBody st) (defScope st) .none kV doc pm an cdv ct) ⟨us, []⟩ = pure (ps.zip us))
    (hbody : ∀ (A : Around) (outer : List Env) (s : Shared) (H : Hp) (vs : List V) (Q : VK) (E : XK), Room k (A.deeper (envOfC x (defScope st) s.heap.objs.size (He.ga K x) (.ref c))) → sp vs H Q E →
      ∃ t, PSs (cxOf CX0 P w K mg base N x (defScope st) (He.ga K x) (.ref c) A outer s H E).nox (defBody st) t ∧ t { nx := fun _ H' => Q .non H', rt := Q } (start N vs) H) :
    Fnc P w K mg base CX0 (k + 1) x ps sp := by
  obtain ⟨fd, ok, b, F⟩ := fncT D S len hbind hbody
  exact ⟨_, fd, ok, D.2, F.kp, b⟩
end
/-- all but the tape and the tables stands -/
def Bt (t l : Addr) (H H' : Hp) : Prop := ∀ b o, H b = some o → b ≠ t → b ≠ l → (∀ ps, o ≠ .tbl ps) → H' b = some o
theorem Bt.refl {t l : Addr} {H : Hp} : Bt t l H H := fun _ _ h _ _ _ => h
theorem Bt.trans {t l : Addr} {H H1 H2 : Hp} (a : Bt t l H H1) (b : Bt t l H1 H2) : Bt t l H H2 := fun c o h h1 h2 h3 => b c o (a c o h h1 h2 h3) h1 h2 h3
theorem Bt.of {t l : Addr} {H H' : Hp} (a : But t l H H') : Bt t l H H' := fun c o h h1 h2 _ => a c o h h1 h2
theorem Bt.ext {t l : Addr} {H H' : Hp} (a : ExtN H H') : Bt t l H H' := fun c o h _ _ n => a c o h n
theorem Tabs.but {T : List (Addr × Str)} {H H' : Hp} {t l c : Addr} (h : Tabs T H) (b : But t l H H') (TT : Tape H t l c) : Tabs T H' := by
  obtain ⟨r, n, lg, cs, h1, h2, _⟩ := TT.ex
  intro p hp
  obtain ⟨ps, e, ok, g⟩ := h p hp
  refine ⟨ps, b _ _ e (ne_of e h1 (by intro z; cases z)) (ne_of e h2 (by intro z; cases z)), ok, fun pos cv hc => ?_⟩
  obtain ⟨c', e1, e2⟩ := g pos cv hc
  exact ⟨c', e1, b _ _ e2 (ne_of e2 h1 (by intro z; cases z)) (ne_of e2 h2 (by intro z; cases z))⟩
theorem ExtN.tape {H H' : Hp} {t l c : Addr} (a : ExtN H H') (T : Tape H t l c) : Tape H' t l c := by
  obtain ⟨r, n, lg, cs, h1, h2, h3⟩ := T.ex
  exact ⟨⟨r, n, lg, cs, a _ _ h1 (by intro ps z; cases z), a _ _ h2 (by intro ps z; cases z), a _ _ h3 (by intro ps z; cases z)⟩, T.lc⟩
theorem ExtN.seq {K : PySem.W.Frag} {H H' : Hp} {a : Addr} {xs : List V} (e : ExtN H H') (h : SqL K H a xs) : SqL K H' a xs := by
  rcases h with (h | ⟨o, h⟩) | h
  · exact .inl (.inl (e _ _ h (by intro ps z; cases z)))
  · exact .inl (.inr ⟨o, e _ _ h (by intro ps z; cases z)⟩)
  · exact .inr h
theorem ExtN.same {H H' : Hp} (a : Same H H') : ExtN H H' := fun b o h _ => a b o h
theorem ExtN.tups {H H' : Hp} (e : ExtN H H') : ∀ b xs, H b = some (.tup xs) → H' b = some (.tup xs) := fun b xs h => e b _ h (by intro ps z; cases z)
end L2
set_option maxHeartbeats 4000000
namespace K3
open PySem L2
def top (i : Nat) : Stmt := PySem.Challenge.pw_restsallowed_k03_texts_of_plans.main.body.getD i (.Pass ⟨0, 0, 0, 0⟩)
abbrev sBegun : Stmt := top 28
abbrev sBlend : Stmt := top 29
abbrev sDraw : Stmt := top 30
abbrev sPick : Stmt := top 31
abbrev sCaught : Stmt := top 32
abbrev sShuf : Stmt := top 33
/-! ### the law's own helpers -/
structure TxL (K : PySem.W.Frag) (mg : Str → Option Value) : Prop where
  begun : Def K mg "_law_begun" sBegun
  blend : Def K mg "_law_blend" sBlend
  draw : Def K mg "_law_draw" sDraw
  pick : Def K mg "_law_pick" sPick
  abs : mg "abs" = none
  int : mg "int" = none
  len : mg "len" = none
  shuf : Def K mg "_law_shuffled" sShuf
  list : mg "list" = none
theorem cpow {i j : Int} (h1 : 0 ≤ j) (h2 : j ≤ 1000000) (h3 : i.natAbs < 2 ^ 64) : CPow i j := ⟨h1, h2, h3⟩
theorem cmulR {i j : Int} (h1 : -(2 ^ 64) < j) (h2 : j < 2 ^ 64) : CMul i j := .inr ⟨h1, h2⟩
theorem cmulL {i j : Int} (h1 : -(2 ^ 64) < i) (h2 : i < 2 ^ 64) : CMul i j := .inl ⟨h1, h2⟩
theorem cdiv {i j : Int} (h1 : 0 < j) (h2 : j < 1073741824) : CDiv i j := ⟨h1, h2⟩
local macro_rules | `(tactic| walk_at "rd") => `(tactic| (repeat (first
  | (refine ⟨_, rfl, ?_⟩)
  | (refine ⟨_, _, rfl, rfl, ?_⟩)
  | (refine ⟨cpow (by decide) (by decide) (by decide), ?_⟩)
  | (refine ⟨cmulR (by decide) (by decide), ?_⟩)
  | (refine ⟨cdiv (by first | decide | omega) (by first | decide | omega), ?_⟩))))
section
variable {P : Program} {w : World} {K : PySem.W.Frag} {mg : Str → Option Value} {base : Heap}
theorem scBegun : FnScope ["script", "large", "grain"] ["script"] (defScope sBegun) := ⟨rfl, rfl, rfl, by decide +kernel, rfl, by decide +kernel, by decide +kernel⟩
theorem ok_begun (T : TxL K mg) : Fnc P w K mg base CX0 1 "_law_begun" ["script"] (spBegun K) := by
  refine fnc0 T.begun scBegun (fun vs H Q E h => ?_) (fun _ _ _ _ _ _ us hl => match us, hl with | [_], _ => rfl) (fun cdv A outer s H vs Q E hr h => ?_)
  · obtain ⟨a, ns, rfl, _⟩ := h
    rfl
  · obtain ⟨a, ns, rfl, hS, hlen, k⟩ := h
    refine ⟨_, pss_cons (ps_setLc (i := 1) (own := [("grain", 2)]) (g := gName 2) rfl scBegun.nd rfl rfl (sw_true rfl rfl rfl (by decide +kernel)) (pi_list (pv 0)) (blkOk_by (N := ["script", "large", "grain"]) (sc := defScope sBegun) (by decide +kernel))
        (fun _ _ _ _ _ => pg_name (i := 2) scBegun.nd rfl (Or.inl rfl)) (fun _ _ _ _ _ => pts_one (pt_cmpR op_ge (pe_callB call_abs (by rfl) T.abs (by decide +kernel) (pa_cons (pv 2) pa_nil)) (pe_op op_pow pe_int pe_int) (nomark _)))
        (fun _ _ _ _ _ => pe_op op_sub (pe_callB call_abs (by rfl) T.abs (by decide +kernel) (pa_cons (pv 2) pa_nil)) (pe_op op_pow pe_int pe_int)))
      (pss_one (ps_ret (pe_disp (pps_cons pe_str (pv 1) (pps_cons pe_str pe_int (pps_cons pe_str
        (pe_lc (own := [("grain", 2)]) (g := gName 2) (tt := tYes) rfl scBegun.nd (pi_list (pv 0)) (blkOk_by (N := ["script", "large", "grain"]) (sc := defScope sBegun) (by decide +kernel))
          (fun _ _ _ _ _ => pg_name (i := 2) scBegun.nd rfl (Or.inl rfl)) (fun _ _ _ _ _ => pts_nil) (fun _ _ _ _ _ => pe_callB call_abs (by rfl) T.abs (by decide +kernel) (pa_cons (pv 2) pa_nil)))
        (pps_cons pe_str pe_int pps_nil)))) (by rfl) (by rfl) (fun z => by cases z) (by decide)))), ?_⟩
    refine ⟨_, rfl, a, rfl, ⟨_, hS⟩, fun D hD => lc_list (K := K) (a := a) (xs := ns.map V.int) (fun i H2 => Same H H2 ∧ ∃ zs : List Int, H2 D = some (.lst (zs.map V.int)) ∧ zs.length ≤ i) ⟨Same.upd hD, [], upd_same, Nat.le_refl _⟩ (fun i H2 _ h => h.1.seq hS) ?_ ?_⟩
    · rintro i x H2 hx ⟨s2, zs, hz, hl⟩
      obtain ⟨z, hz1, rfl⟩ := map_get hx
      refine ⟨rfl, ?_⟩
      walk_at "rd"
      refine ite2 (fun hc => ?_) (fun hc => ?_)
      · walk_at "rd"
        have hi := (List.getElem?_eq_some_iff.mp hz1).1
        refine ⟨_, hz, small1000 (by rw [List.length_map]; omega), s2.put hD, zs ++ [(if z < 0 then -z else z) - 10 ^ Int.toNat 18], ?_, by rw [List.length_append, List.length_singleton]; omega⟩
        rw [upd_same, ← map_snoc]
      · exact ⟨s2, zs, hz, by omega⟩
    · rintro H2 ⟨s2, zs, hz, hl⟩
      intro p hp
      walk_at "rd"
      have s3 : Same H (upd H2 p (.dK [])) := s2.trans (Same.upd hp)
      have nDp : D ≠ p := ne_of_none hz hp
      refine ⟨⟨_, s3.seq hS⟩, fun D2 hD2 => lc_list (K := K) (a := a) (xs := ns.map V.int) (fun i H3 => Same H H3 ∧ H3 p = some (.dK []) ∧ H3 D = some (.lst (zs.map V.int)) ∧ ∃ cs : List Int, H3 D2 = some (.lst (cs.map V.int)) ∧ cs.length ≤ i) ?_ (fun i H3 _ h => h.1.seq hS) ?_ ?_⟩
      · have hp2 : p ≠ D2 := ne_of_none upd_same hD2
        have hz2 : (upd H2 p (HO.dK [])) D = some (.lst (zs.map V.int)) := by rw [upd_ne nDp]; exact hz
        exact ⟨s3.trans (Same.upd hD2), by rw [upd_ne hp2]; exact upd_same, by rw [upd_ne (ne_of_none hz2 hD2)]; exact hz2, [], upd_same, Nat.le_refl _⟩
      · rintro i x H3 hx ⟨s4, hp3, hz3, cs, hc, hl2⟩
        obtain ⟨z, hz1, rfl⟩ := map_get hx
        have hi := (List.getElem?_eq_some_iff.mp hz1).1
        have nD2 : H D2 = none := s3.free hD2
        have hp2 : p ≠ D2 := ne_of hp3 hc (by intro z; cases z)
        have hD12 : D ≠ D2 := fun e => by
          rw [← e, upd_ne nDp, hz] at hD2
          cases hD2
        refine ⟨rfl, ?_⟩
        walk_at "rd"
        refine ⟨_, hc, small1000 (by rw [List.length_map]; omega), s4.put nD2, by rw [upd_ne hp2]; exact hp3, by rw [upd_ne hD12]; exact hz3, cs ++ [if z < 0 then -z else z], ?_, by rw [List.length_append, List.length_singleton]; omega⟩
        rw [upd_same, ← map_snoc]
      · rintro H3 ⟨s4, hp3, hz3, cs, hc, hl2⟩
        refine ⟨hp3, tapeL D D2 0 0, rfl, (by show 4 ≤ 15; decide), ?_⟩
        have np : H p = none := s2.free hp
        have hD12 : D ≠ D2 := fun e => by
          rw [← e, upd_ne nDp, hz] at hD2
          cases hD2
        refine k p D D2 _ (s4.put np) np hD (s3.free hD2) ⟨⟨0, 0, zs, cs, ?_, ?_, ?_⟩, hD12⟩
        · rw [upd_same, merge_tape]
        · rw [upd_ne nDp]
          exact hz3
        · rw [upd_ne (ne_of hc hp3 (by intro z; cases z))]
          exact hc
theorem scBlend : FnScope ["tape", "turn", "found", "great", "blended", "grain"] ["tape"] (defScope sBlend) := ⟨rfl, rfl, rfl, by decide +kernel, rfl, by decide +kernel, by decide +kernel⟩
theorem great_at {i : Nat} {y : V} (h : [V.int 2147483629, V.int 2147483587, V.int 2147483579][i]? = some y) : ∃ g : Int, y = .int g ∧ 0 < g ∧ g < 2147483648 := by
  match i, h with
  | 0, h => exact ⟨_, (Option.some.inj h).symm, by decide, by decide⟩
  | 1, h => exact ⟨_, (Option.some.inj h).symm, by decide, by decide⟩
  | 2, h => exact ⟨_, (Option.some.inj h).symm, by decide, by decide⟩
  | i + 3, h => simp at h
theorem pow_small {b g : Int} (h0 : 0 ≤ b) (h1 : b < g) (h2 : g < 2147483648) : b.natAbs < 2 ^ 64 := by
  have e : (2 : Nat) ^ 64 = 18446744073709551616 := by decide
  rw [e]
  omega
theorem ok_blend (T : TxL K mg) : Fnc P w K mg base CX0 1 "_law_blend" ["tape"] spBlend := by
  refine fnc0 T.blend scBlend (fun vs H Q E h => ?_) (fun _ _ _ _ _ _ us hl => match us, hl with | [_], _ => rfl) (fun cdv A outer s H vs Q E hr h => ?_)
  · obtain ⟨t, l, c, rfl, _⟩ := h
    rfl
  · obtain ⟨t, l, c, rfl, TT, k⟩ := h
    have hu := hu_of hr
    refine ⟨_, pss_cons (ps_dput hu (pv 0) pe_str (pe_op op_add (pe_dget hu (pv 0) pe_str (fun _ _ => rfl)) pe_int) rfl)
      (pss_cons (ps_par (by rfl) scBlend.nd (i := 1) (j := 2) rfl rfl (by decide) rfl rfl (pa_cons (pe_callTy call_int1 (by rfl) T.int (by decide +kernel) (pa_cons (pe_dget hu (pv 0) pe_str (fun _ _ => rfl)) pa_nil)) (pa_cons pe_int pa_nil)) (by rfl))
      (pss_cons (ps_for PassesOwn.never rfl (pi_list (pe_lst (pa_cons pe_int (pa_cons pe_int (pa_cons pe_int pa_nil))))) (pg_name (i := 3) scBlend.nd rfl (Or.inl rfl))
        (pss_cons (ps_set (i := 4) scBlend.nd rfl (Or.inl rfl) (pe_op op_mod (pe_op op_add (pe_op op_mul (pv 1) pe_int) (pe_op op_fdiv (pv 3) pe_int)) (pv 3)))
        (pss_cons (ps_for PassesOwn.never rfl (pi_list (pe_dget hu (pv 0) pe_str (fun _ _ => rfl))) (pg_name (i := 5) scBlend.nd rfl (Or.inl rfl))
          (pss_one (ps_set (i := 4) scBlend.nd rfl (Or.inl rfl) (pe_op op_mod (pe_op op_add (pe_op op_mul (pv 4) pe_int) (pe_callTy call_int1 (by rfl) T.int (by decide +kernel) (pa_cons (pv 5) pa_nil))) (pv 3)))))
        (pss_one (ps_set (i := 2) scBlend.nd rfl (Or.inl rfl) (pe_op op_add (pe_op op_mul (pv 2) pe_int) (pe_op op_mod (pe_op op_pow (pv 4) pe_int) (pv 3))))))))
      (pss_one (ps_ret (pv 2))))), ?_⟩
    obtain ⟨r, n, lg, cs, h1, h2, h3⟩ := TT.ex
    have tl := TT.tl
    have tc := TT.tc
    -- tape['turn'] = tape['turn'] + 1
    refine ⟨_, rfl, t, .int n, rfl, dg_turn h1, _, _, rfl, rfl, _, rfl, t, _, rfl, dp_turn _ h1, ?_⟩
    -- turn, found = (int(tape['turn']), 0)
    refine ⟨_, rfl, t, .int (n + 1), rfl, dg_turn upd_same, .inl ⟨_, rfl, _, _, rfl, ?_⟩⟩
    -- the loops
    refine ⟨by decide, fun p hp => ⟨p, rfl, ⟨_, SqL.of upd_same⟩, for_list (K := K) (a := p) (xs := [V.int 2147483629, V.int 2147483587, V.int 2147483579]) (fun i σ H2 => ∃ (f : Int) (gv bv rv : Option V), σ = [some (.ref t), some (.int (n + 1)), some (.int f), gv, bv, rv] ∧ Same (upd H t (.dK (tapeL l c r (n + 1)))) H2 ∧ H2 p = some (.lst [V.int 2147483629, V.int 2147483587, V.int 2147483579]))
      ⟨0, none, none, none, rfl, Same.upd hp, upd_same⟩ (fun i σ H2 _ ⟨_, _, _, _, _, _, h⟩ => SqL.of h) ?_ ?_⟩⟩
    · rintro i y σ H2 hy ⟨f, gv, bv, rv, rfl, s2, hp2⟩
      obtain ⟨g, rfl, hg0, hg1⟩ := great_at hy
      have ht2 : H2 t = some (.dK (tapeL l c r (n + 1))) := s2 _ _ upd_same
      have hc2 : H2 c = some (.lst (cs.map V.int)) := s2 _ _ (by rw [upd_ne (Ne.symm tc)]; exact h3)
      -- blended = (turn * 69621 + great // 7) % great
      walk_at "rd"
      refine ⟨hg0, ?_⟩
      -- for grain in tape['cells']
      refine ⟨_, rfl, t, .ref c, rfl, dg_cells ht2, c, rfl, ⟨_, SqL.of hc2⟩, for_list (K := K) (a := c) (xs := cs.map V.int) (fun j σ H3 => ∃ (b : Int) (rv : Option V), σ = [some (.ref t), some (.int (n + 1)), some (.int f), some (.int g), some (.int b), rv] ∧ 0 ≤ b ∧ b < g ∧ H3 = H2)
        ⟨_, rv, rfl, Int.emod_nonneg _ (by omega), Int.emod_lt_of_pos _ hg0, rfl⟩ (fun j σ H3 _ ⟨_, _, _, _, _, h⟩ => by rw [h]; exact SqL.of hc2) ?_ ?_⟩
      · rintro j y σ H3 hy ⟨b, rv, rfl, b0, b1, rfl⟩
        obtain ⟨z, _, rfl⟩ := map_get hy
        walk_at "rd"
        refine .inl ⟨_, rfl, ?_⟩
        walk_at "rd"
        refine ⟨hg0, ?_⟩
        exact ⟨_, _, rfl, Int.emod_nonneg _ (by omega), Int.emod_lt_of_pos _ hg0, rfl⟩
      · rintro σ H3 ⟨b, rv, rfl, b0, b1, rfl⟩
        walk_at "rd"
        refine ⟨cpow (by decide) (by decide) (pow_small b0 b1 hg1), ?_⟩
        walk_at "rd"
        refine ⟨hg0, ?_⟩
        walk_at "rd"
        exact ⟨_, _, _, _, rfl, s2, hp2⟩
    · rintro σ H2 ⟨f, gv, bv, rv, rfl, s2, hp2⟩
      refine ⟨_, rfl, k f H2 ⟨⟨r, n + 1, lg, cs, s2 _ _ upd_same, s2 _ _ (by rw [upd_ne (Ne.symm tl)]; exact h2), s2 _ _ (by rw [upd_ne (Ne.symm tc)]; exact h3)⟩, TT.lc⟩ fun b o e hb => s2 _ _ (by rw [upd_ne hb]; exact e)⟩
theorem scDraw : FnScope ["tape", "size", "found"] ["tape", "size"] (defScope sDraw) := ⟨rfl, rfl, rfl, by decide +kernel, rfl, by decide +kernel, by decide +kernel⟩
theorem ok_draw (T : TxL K mg) : Fnc P w K mg base CX0 2 "_law_draw" ["tape", "size"] spDraw := by
  have GB : Fnc P w K mg base CX0 1 "_law_blend" ["tape"] spBlend := ok_blend T
  refine fnc0 T.draw scDraw (fun vs H Q E h => ?_) (fun _ _ _ _ _ _ us hl => match us, hl with | [_, _], _ => rfl) (fun cdv A outer s H vs Q E hr h => ?_)
  · obtain ⟨t, l, c, m, rfl, _⟩ := h
    rfl
  · obtain ⟨t, l, c, m, rfl, m0, m1, TT, k⟩ := h
    have hu := hu_of hr
    refine ⟨_, pss_cons (ps_if (pt_cmpR op_eq (pe_dget hu (pv 0) pe_str (fun _ _ => rfl)) pe_int (nomark _))
        (pss_one (ps_dput hu (pv 0) pe_str (pe_ifExp (pt_cmpR (op_neD hr.units) (pe_dget hu (pv 0) pe_str (fun _ _ => rfl)) (pe_lst pa_nil) (nomark _))
          (pe_bm PySem.F.plainAttrs_list PySem.F.slot_list_pop PySem.F.type_list_pop mt_popAt (pe_dget hu (pv 0) pe_str (fun _ _ => rfl)) (pa_cons pe_int pa_nil))
          (pe_fn GB hr pass0 (pa_cons (pv 0) pa_nil))) rfl)) pss_nil)
      (pss_cons (ps_set (i := 2) scDraw.nd rfl (Or.inl rfl) (pe_op op_mod (pe_callTy call_int1 (by rfl) T.int (by decide +kernel) (pa_cons (pe_dget hu (pv 0) pe_str (fun _ _ => rfl)) pa_nil)) (pv 1)))
      (pss_cons (ps_dput hu (pv 0) pe_str (pe_op op_fdiv (pe_callTy call_int1 (by rfl) T.int (by decide +kernel) (pa_cons (pe_dget hu (pv 0) pe_str (fun _ _ => rfl)) pa_nil)) (pv 1)) rfl)
      (pss_one (ps_ret (pv 2))))), ?_⟩
    obtain ⟨r, n, lg, cs, h1, h2, h3⟩ := TT.ex
    have tl := TT.tl
    have tc := TT.tc
    -- what is behind the if
    have tail : ∀ H2 : Hp, Tape H2 t l c → But t l H H2 → tSeq
        (tAsg (tOp (rI (fun _ j => 0 < j) fun i j => V.int (i % j)) (tCB (fun xs H Q => (∃ i, xs = [V.int i] ∧ Q (V.int i) H) ∨ ∃ k, xs = [V.bl k] ∧ Q (V.int (if k then 1 else 0)) H) (tCons (tDGet (tVar 0) (tC (.str "rest"))) tNil)) (tVar 1)) (gName 2))
        (tSeq (sDPut (tVar 0) (tC (.str "rest")) (tOp (rI CDiv fun i j => V.int (i / j)) (tCB (fun xs H Q => (∃ i, xs = [V.int i] ∧ Q (V.int i) H) ∨ ∃ k, xs = [V.bl k] ∧ Q (V.int (if k then 1 else 0)) H) (tCons (tDGet (tVar 0) (tC (.str "rest"))) tNil)) (tVar 1)))
        (tRet (tVar 2))) { nx := fun _ H' => Q .non H', rt := Q } [some (.ref t), some (.int m), none] H2 := by
      intro H2 T2 b2
      obtain ⟨r, n, lg, cs, h1, h2, h3⟩ := T2.ex
      refine ⟨_, rfl, t, .int r, rfl, dg_rest h1, .inl ⟨_, rfl, _, rfl, _, _, rfl, rfl, m0, ?_⟩⟩
      refine ⟨_, rfl, t, .int r, rfl, dg_rest h1, .inl ⟨_, rfl, _, rfl, _, _, rfl, rfl, ⟨m0, m1⟩, _, rfl, t, _, rfl, dp_rest _ h1, _, rfl, ?_⟩⟩
      refine k (r % m) _ (Int.emod_nonneg _ (by omega)) (Int.emod_lt_of_pos _ m0) ⟨⟨_, n, lg, cs, upd_same, by rw [upd_ne (Ne.symm T2.tl)]; exact h2, by rw [upd_ne (Ne.symm T2.tc)]; exact h3⟩, T2.lc⟩ fun b o e ht hl => ?_
      rw [upd_ne ht]
      exact b2 b o e ht hl
    refine ⟨_, rfl, t, .int r, rfl, dg_rest h1, rfl, _, rfl, ?_⟩
    refine ite2 (fun _ => ?_) (fun _ => tail H TT .refl)
    -- tape['rest'] = ..
    refine ⟨_, rfl, t, .ref l, rfl, dg_large h1, by decide, fun p hp => ⟨_, _, dp_ints (SqL.of (by rw [upd_ne (ne_of_none h2 hp)]; exact h2)), dp_nil (SqL.of upd_same), shaped_ints _, shaped_nil, _, rfl, ?_⟩⟩
    have g1 : (upd H p (.lst [])) t = some (.dK (tapeL l c r n)) := by rw [upd_ne (ne_of_none h1 hp)]; exact h1
    have g2 : (upd H p (.lst [])) l = some (.lst (lg.map V.int)) := by rw [upd_ne (ne_of_none h2 hp)]; exact h2
    have g3 : (upd H p (.lst [])) c = some (.lst (cs.map V.int)) := by rw [upd_ne (ne_of_none h3 hp)]; exact h3
    rw [eqv_nilL]
    cases lg with
    | nil =>
      refine iteF ?_
      refine ⟨_, rfl, t, l, c, rfl, ⟨⟨r, n, [], cs, g1, g2, g3⟩, TT.lc⟩, fun v H2 T2 b2 => ?_⟩
      obtain ⟨r2, n2, lg2, cs2, k1, k2, k3⟩ := T2.ex
      refine ⟨_, rfl, t, _, rfl, dp_rest v k1, ?_⟩
      refine tail _ ⟨⟨v, n2, lg2, cs2, upd_same, by rw [upd_ne (Ne.symm tl)]; exact k2, by rw [upd_ne (Ne.symm tc)]; exact k3⟩, TT.lc⟩ fun b o e ht hl => ?_
      rw [upd_ne ht]
      exact b2 b o (by rw [upd_ne (ne_of_none e hp)]; exact e) ht
    | cons z lg =>
      refine iteT ?_
      refine ⟨_, rfl, t, .ref l, rfl, dg_large g1, .inl ⟨rfl, _, SqL.of g2⟩, l, _, 0, 0, V.int z, rfl, rfl, g2, by decide, by decide, (by simp [seqIndex?]), rfl, ?_⟩
      have q1 : (upd (upd H p (.lst [])) l (.lst (((z :: lg).map V.int).eraseIdx 0))) t = some (.dK (tapeL l c r n)) := by rw [upd_ne tl]; exact g1
      refine ⟨_, rfl, t, _, rfl, dp_rest z q1, ?_⟩
      refine tail _ ⟨⟨z, n, lg, cs, upd_same, ?_, ?_⟩, TT.lc⟩ fun b o e ht hl => ?_
      · rw [upd_ne (Ne.symm tl), upd_same]
        rfl
      · rw [upd_ne (Ne.symm tc), upd_ne (Ne.symm TT.lc)]
        exact g3
      · rw [upd_ne ht, upd_ne hl, upd_ne (ne_of_none e hp)]
        exact e
theorem scPick : FnScope ["tape", "several"] ["tape", "several"] (defScope sPick) := ⟨rfl, rfl, rfl, by decide +kernel, rfl, by decide +kernel, by decide +kernel⟩
theorem ok_pick (T : TxL K mg) : Fnc P w K mg base CX0 3 "_law_pick" ["tape", "several"] (spPick K) := by
  have GD : Fnc P w K mg base CX0 2 "_law_draw" ["tape", "size"] spDraw := ok_draw T
  refine fnc0 T.pick scPick (fun vs H Q E h => ?_) (fun _ _ _ _ _ _ us hl => match us, hl with | [_, _], _ => rfl) (fun cdv A outer s H vs Q E hr h => ?_)
  · obtain ⟨t, l, c, a, xs, rfl, _⟩ := h
    rfl
  · obtain ⟨t, l, c, a, xs, rfl, hS, hne, hlt, at_, al, TT, k⟩ := h
    refine ⟨_, pss_one (ps_ret (pe_ix ix_list (pv 1) (pe_fn GD hr pass0 (pa_cons (pv 0) (pa_cons (pe_callB call_len_seq (by rfl) T.len PySem.boot_len (pa_cons (pv 1) pa_nil)) pa_nil))) (fun _ _ => rfl))), ?_⟩
    have h0 : 0 < xs.length := List.length_pos_iff.mpr hne
    refine ⟨_, rfl, _, rfl, _, rfl, a, xs, rfl, .inl hS, t, l, c, _, rfl, by omega, by omega, TT, fun d H' d0 d1 T' b' => ?_⟩
    have hd : d.toNat < xs.length := by omega
    exact ⟨a, xs, d, xs[d.toNat], rfl, rfl, b'.seq at_ al hS, atI_int d0 (List.getElem?_eq_getElem hd), k d.toNat _ H' (List.getElem?_eq_getElem hd) T' b'⟩
theorem scShuf : FnScope ["tape", "several", "left", "found"] ["tape", "several"] (defScope sShuf) := ⟨rfl, rfl, rfl, by decide +kernel, rfl, by decide +kernel, by decide +kernel⟩
theorem ok_shuf (T : TxL K mg) : Fnc P w K mg base CX0 3 "_law_shuffled" ["tape", "several"] (spShuf K) := by
  have GD : Fnc P w K mg base CX0 2 "_law_draw" ["tape", "size"] spDraw := ok_draw T
  refine fnc0 T.shuf scShuf (fun vs H Q E h => ?_) (fun _ _ _ _ _ _ us hl => match us, hl with | [_, _], _ => rfl) (fun cdv A outer s H vs Q E hr h => ?_)
  · obtain ⟨t, l, c, a, xs, rfl, _⟩ := h
    rfl
  · obtain ⟨t, l, c, a, xs, rfl, hS, hlt, TT, k⟩ := h
    refine ⟨_, pss_cons (ps_par (by rfl) scShuf.nd (i := 2) (j := 3) rfl rfl (by decide) rfl rfl (pa_cons (pe_callTy call_list_of (by rfl) T.list (by decide +kernel) (pa_cons (pv 1) pa_nil)) (pa_cons (pe_lst pa_nil) pa_nil)) (by rfl))
      (pss_cons (ps_while PassesOwn.never (pt_cmpR (op_neD hr.units) (pv 2) (pe_lst pa_nil) (nomark _))
        (pss_one (ps_expr (pe_bm PySem.F.plainAttrs_list PySem.F.slot_list_append PySem.F.type_list_append mt_append (pv 3) (pa_cons
          (pe_bm PySem.F.plainAttrs_list PySem.F.slot_list_pop PySem.F.type_list_pop mt_popAt (pv 2) (pa_cons
            (pe_fn GD hr pass0 (pa_cons (pv 0) (pa_cons (pe_callB call_len_seq (by rfl) T.len PySem.boot_len (pa_cons (pv 2) pa_nil)) pa_nil))) pa_nil)) pa_nil)))))
      (pss_one (ps_ret (pv 3)))), ?_⟩
    refine ⟨_, rfl, a, _, rfl, .inl hS, fun p hp => ⟨by decide, fun q hq => ⟨_, _, rfl, ?_⟩⟩⟩
    have npq : p ≠ q := ne_of_none upd_same hq
    refine ⟨fun m σ H2 => ∃ (lf fd : List Int), m = lf.length ∧ σ = [some (.ref t), some (.ref a), some (.ref p), some (.ref q)] ∧ But t l H H2 ∧ Tape H2 t l c ∧ H2 p = some (.lst (lf.map V.int)) ∧ H2 q = some (.lst (fd.map V.int)) ∧ (fd ++ lf).Perm xs, ⟨xs.length, xs, [], rfl, rfl, ?_, ?_, ?_, upd_same, .refl _⟩, ?_⟩
    · exact But.of ((Same.upd hp).trans (Same.upd hq))
    · exact ((Same.upd hp).trans (Same.upd hq)).tape TT
    · rw [upd_ne npq]
      exact upd_same
    · rintro m σ H2 ⟨lf, fd, rfl, rfl, b2, T2, hp2, hq2, pm⟩
      have pt : p ≠ t := fun e => by
        obtain ⟨r, n, lg, cs, h1, _⟩ := TT.ex
        rw [e, h1] at hp
        cases hp
      have pl : p ≠ l := fun e => by
        obtain ⟨r, n, lg, cs, _, h1, _⟩ := TT.ex
        rw [e, h1] at hp
        cases hp
      have hq0 : H q = none := (Same.upd hp).free hq
      have qt : q ≠ t := fun e => by
        obtain ⟨r, n, lg, cs, h1, _⟩ := TT.ex
        rw [e, h1] at hq0
        cases hq0
      have ql : q ≠ l := fun e => by
        obtain ⟨r, n, lg, cs, _, h1, _⟩ := TT.ex
        rw [e, h1] at hq0
        cases hq0
      have hln : lf.length ≤ xs.length := by
        have e := pm.length_eq
        rw [List.length_append] at e
        omega
      have hlf : fd.length ≤ xs.length := by
        have e := pm.length_eq
        rw [List.length_append] at e
        omega
      refine ⟨_, rfl, by decide, fun e he => ⟨_, _, dp_ints (SqL.of (by rw [upd_ne (ne_of_none hp2 he)]; exact hp2)), dp_nil (SqL.of upd_same), shaped_ints _, shaped_nil, _, rfl, ?_⟩⟩
      rw [eqv_nilL]
      have g1 : (upd H2 e (.lst [])) p = some (.lst (lf.map V.int)) := by rw [upd_ne (ne_of_none hp2 he)]; exact hp2
      have g2 : (upd H2 e (.lst [])) q = some (.lst (fd.map V.int)) := by rw [upd_ne (ne_of_none hq2 he)]; exact hq2
      have g3 : But t l H (upd H2 e (.lst [])) := b2.trans (But.of (Same.upd he))
      have g4 : Tape (upd H2 e (.lst [])) t l c := (Same.upd he).tape T2
      cases lf with
      | nil =>
        refine iteF ?_
        rw [List.append_nil] at pm
        exact ⟨_, rfl, k fd q _ pm hq0 g2 g4 g3⟩
      | cons z lf =>
        refine iteT ⟨fun σ' H' => ∃ (lf' fd : List Int), lf'.length < (z :: lf).length ∧ σ' = [some (.ref t), some (.ref a), some (.ref p), some (.ref q)] ∧ But t l H H' ∧ Tape H' t l c ∧ H' p = some (.lst (lf'.map V.int)) ∧ H' q = some (.lst (fd.map V.int)) ∧ (fd ++ lf').Perm xs,
          fun σ' H' ⟨lf', fd, h0, h1, h2, h3, h4, h5, h6⟩ => ⟨_, h0, lf', fd, rfl, h1, h2, h3, h4, h5, h6⟩, ?_⟩
        refine ⟨_, rfl, .inl ⟨rfl, _, SqL.of g2⟩, _, rfl, .inl ⟨rfl, _, SqL.of g1⟩, _, rfl, _, rfl, p, _, rfl, .inl (SqL.of g1), t, l, c, _, rfl, ?_, ?_, g4, fun d H3 d0 d1 T3 b3 => ?_⟩
        · rw [List.length_map, List.length_cons]
          omega
        · rw [List.length_map]
          omega
        rw [List.length_map] at d1
        have k1 : H3 p = some (.lst ((z :: lf).map V.int)) := b3 _ _ g1 pt pl
        have k2 : H3 q = some (.lst (fd.map V.int)) := b3 _ _ g2 qt ql
        have hd : d.toNat < (z :: lf).length := by omega
        have hx := List.getElem?_eq_getElem hd
        refine ⟨p, _, d, d.toNat, V.int (z :: lf)[d.toNat], rfl, rfl, k1, by omega, by omega, seqIx d0 (by rw [List.length_map]; exact d1), by rw [List.getElem?_map, hx]; rfl, ?_⟩
        have m1 : (upd H3 p (.lst (((z :: lf).map V.int).eraseIdx d.toNat))) q = some (.lst (fd.map V.int)) := by rw [upd_ne (Ne.symm npq)]; exact k2
        refine ⟨q, _, _, rfl, rfl, m1, small1000 (by rw [List.length_map]; omega), ?_⟩
        refine ⟨(z :: lf).eraseIdx d.toNat, fd ++ [(z :: lf)[d.toNat]], ?_, rfl, ?_, ?_, ?_, ?_, perm_erase hx pm⟩
        · rw [List.length_eraseIdx, if_pos hd]
          omega
        · intro b o e1 e2 e3
          have z1 := b3 b o (g3 b o e1 e2 e3) e2 e3
          rw [upd_ne (ne_of_none e1 hq0), upd_ne (ne_of_none e1 hp)]
          exact z1
        · obtain ⟨r, n, lg, cs, f1, f2, f3⟩ := T3.ex
          have np : ∀ b o, H b = some o → b ≠ p ∧ b ≠ q := fun b o e => ⟨ne_of_none e hp, ne_of_none e hq0⟩
          obtain ⟨r0, n0, lg0, cs0, e1, e2, e3⟩ := TT.ex
          refine ⟨⟨r, n, lg, cs, ?_, ?_, ?_⟩, TT.lc⟩
          · rw [upd_ne (np _ _ e1).2, upd_ne (np _ _ e1).1]; exact f1
          · rw [upd_ne (np _ _ e2).2, upd_ne (np _ _ e2).1]; exact f2
          · rw [upd_ne (np _ _ e3).2, upd_ne (np _ _ e3).1]; exact f3
        · rw [upd_ne npq, upd_same, map_erase]
        · rw [upd_same, ← map_snoc]
end
end K3
set_option maxHeartbeats 4000000
namespace K3
open PySem L2 PySem.EX
/-! ### the program's defs -/
abbrev sNum : Stmt := top 9
abbrev sBtw : Stmt := top 10
abbrev sLst : Stmt := top 11
abbrev sSw : Stmt := top 14
abbrev sLines : Stmt := top 15
abbrev sIsArrow : Stmt := top 17
abbrev sNeedA : Stmt := top 18
/-- an exception class of ours -/
structure XCls (prog : Program) (K : PySem.W.Frag) (mg : Str → Option Value) (x : Str) (k : Fk) : Prop where
  glo : mg x = some (.ref (He.ga K x))
  txt : ∃ D fI cc cda, XTxt prog K k (He.ga K x) D fI cc cda
structure TxP (prog : Program) (K : PySem.W.Frag) (mg : Str → Option Value) : Prop where
  num : Def K mg "is_number" sNum
  btw : Def K mg "is_between" sBtw
  lst : Def K mg "is_list" sLst
  sw : Def K mg "switches_in" sSw
  lines : Def K mg "lines_of" sLines
  isArrow : Def K mg "is_arrow" sIsArrow
  needA : Def K mg "need_arrows" sNeedA
  most : ∃ t, mg "MOST_SWITCHES" = some (.int 5 t)
  isinst : mg "isinstance" = none
  int : mg "int" = none
  bool : mg "bool" = none
  tuple : mg "tuple" = none
  list : mg "list" = none
  str : mg "str" = none
  range : mg "range" = none
  len : mg "len" = none
  all : mg "all" = none
  enum : mg "enumerate" = none
  badText : XCls prog K mg "BadText" .index
  badNum : XCls prog K mg "BadNumber" .part
  badArr : XCls prog K mg "BadArrows" .index
  noPlan : XCls prog K mg "NoPlan" .part
section
variable {P : Program} {w : World} {K : PySem.W.Frag} {mg : Str → Option Value} {base : Heap}
theorem pe_ty {X : Cx} {x : Str} {n : String} {pos : Pos} (hm : X.mg x = none) (hg : Gl X x) (hv : bootBuiltins x = some (.type n)) (hn : x ≠ "__name__" := by decide) (hd : (x == ("__debug__" : Str)) = false := by decide) : PE X (.Name x pos) (tC (.ty n)) := pe_bltn hg hm hv rfl hn hd
def spNum : Sp := fun vs H Q _ => ∃ i : Int, vs = [.int i] ∧ Q (.bl true) H
theorem scNum : FnScope ["thing"] ["thing"] (defScope sNum) := ⟨rfl, rfl, rfl, by decide +kernel, rfl, by decide +kernel, by decide +kernel⟩
theorem ok_num (T : TxP P K mg) : Fnc P w K mg base CX0 1 "is_number" ["thing"] spNum := by
  refine fnc0 T.num scNum (fun vs H Q E h => ?_) (fun _ _ _ _ _ _ us hl => match us, hl with | [_], _ => rfl) (fun cdv A outer s H vs Q E hr h => ?_)
  · obtain ⟨i, rfl, _⟩ := h
    rfl
  · obtain ⟨i, rfl, k⟩ := h
    refine ⟨_, pss_one (ps_ret (pe_and (pe_callB call_isi (by rfl) T.isinst (by decide +kernel) (pa_cons (pv 0) (pa_cons (pe_ty (n := "int") T.int (by rfl) (by decide +kernel)) pa_nil)))
      (pe_one (pe_not (pe_callB call_isi (by rfl) T.isinst (by decide +kernel) (pa_cons (pv 0) (pa_cons (pe_ty (n := "bool") T.bool (by rfl) (by decide +kernel)) pa_nil))))))), ?_⟩
    refine ⟨_, rfl, .int i, .ty "int", _, _, true, rfl, .ty _, .base (.int i), by with_unfolding_all rfl, true, rfl, ?_⟩
    refine iteT ?_
    exact ⟨_, rfl, .int i, .ty "bool", _, _, false, rfl, .ty _, .base (.int i), by with_unfolding_all rfl, false, rfl, k⟩
def spBtw : Sp := fun vs H Q _ => ∃ i a b : Int, vs = [.int i, .int a, .int b] ∧ Q (.bl (decide (a ≤ i) && decide (i ≤ b))) H
theorem scBtw : FnScope ["thing", "low", "high"] ["thing", "low", "high"] (defScope sBtw) := ⟨rfl, rfl, rfl, by decide +kernel, rfl, by decide +kernel, by decide +kernel⟩
theorem ok_btw (T : TxP P K mg) : Fnc P w K mg base CX0 2 "is_between" ["thing", "low", "high"] spBtw := by
  have GN : Fnc P w K mg base CX0 1 "is_number" ["thing"] spNum := ok_num T
  refine fnc0 T.btw scBtw (fun vs H Q E h => ?_) (fun _ _ _ _ _ _ us hl => match us, hl with | [_, _, _], _ => rfl) (fun cdv A outer s H vs Q E hr h => ?_)
  · obtain ⟨i, a, b, rfl, _⟩ := h
    rfl
  · obtain ⟨i, a, b, rfl, k⟩ := h
    refine ⟨_, pss_one (ps_ret (pe_and (pe_fn GN hr pass0 (pa_cons (pv 0) pa_nil)) (pe_one (pe_chain op_le op_le (pv 1) (pv 0) (pv 2))))), ?_⟩
    refine ⟨_, rfl, i, rfl, true, rfl, iteT ?_⟩
    refine ⟨_, rfl, _, rfl, _, _, rfl, rfl, _, rfl, ?_⟩
    by_cases h1 : a ≤ i
    · rw [decide_eq_true h1, Bool.true_and] at k
      rw [decide_eq_true h1]
      exact iteT ⟨_, rfl, _, _, rfl, rfl, k⟩
    · rw [decide_eq_false h1, Bool.false_and] at k
      rw [decide_eq_false h1]
      exact iteF k
theorem TyX.ext {H H' : Hp} {x : V} {t : Value} (e : ∀ a o, H a = some o → H' a = some o) (h : TyX K H x t) : TyX K H' x t := by
  cases h with
  | base b => cases b with
    | non => exact .base .non
    | bl x => exact .base (.bl x)
    | int x => exact .base (.int x)
    | str x => exact .base (.str x)
    | flt x => exact .base (.flt x)
    | lst q => exact .base (.lst (e _ _ q))
    | frz q => exact .base (.frz (e _ _ q))
    | tup q => exact .base (.tup (e _ _ q))
    | dK q => exact .base (.dK (e _ _ q))
    | dT q => exact .base (.dT (e _ _ q))
    | ins q c1 c2 c3 c4 c5 => exact .base (.ins (e _ _ q) c1 c2 c3 c4 c5)
  | byt b => exact .byt b
  | set q => exact .set (e _ _ q)
  | kList q c => exact .kList q c
  | kTuple q c => exact .kTuple q c
  | kDict q c => exact .kDict q c
  | fTuple q => exact .fTuple (e _ _ q)
  | fDict q => exact .fDict (e _ _ q)
def spLst (K : PySem.W.Frag) : Sp := fun vs H Q _ => ∃ (v : V) (t : Value) (b : Bool), vs = [v] ∧ TyX K H v t ∧ PySem.W.kitAny K t [.type "list", .type "tuple"] = some b ∧ ∀ H', Same H H' → Q (.bl b) H'
theorem scLst : FnScope ["thing"] ["thing"] (defScope sLst) := ⟨rfl, rfl, rfl, by decide +kernel, rfl, by decide +kernel, by decide +kernel⟩
theorem ok_lst (T : TxP P K mg) : Fnc P w K mg base CX0 1 "is_list" ["thing"] (spLst K) := by
  refine fnc0 T.lst scLst (fun vs H Q E h => ?_) (fun _ _ _ _ _ _ us hl => match us, hl with | [_], _ => rfl) (fun cdv A outer s H vs Q E hr h => ?_)
  · obtain ⟨v, t, b, rfl, _⟩ := h
    rfl
  · obtain ⟨v, t, b, rfl, ty, kit, k⟩ := h
    refine ⟨_, pss_one (ps_ret (pe_callB call_isiT (by rfl) T.isinst (by decide +kernel) (pa_cons (pv 0) (pa_cons (pe_tup (pa_cons (pe_ty (n := "list") T.list (by rfl) (by decide +kernel)) (pa_cons (pe_ty (n := "tuple") T.tuple (by rfl) (by decide +kernel)) pa_nil))) pa_nil)))), ?_⟩
    refine ⟨_, rfl, by decide, fun p hp => ?_⟩
    exact ⟨v, p, _, t, _, b, rfl, upd_same, .cons (.ty _) (.cons (.ty _) .nil), TyX.ext (Same.upd hp) ty, kit, k _ (Same.upd hp)⟩
/-! ### texts -/
def nS (i : Int) : Str := Str.ofString (toString i)
def headS (m : Int) : Str := Str.ofString "switches " ++ nS m
theorem headS_len {m : Int} (h0 : 1 ≤ m) (h1 : m ≤ 5) : (headS m).length = 10 := by
  have e : m = 1 ∨ m = 2 ∨ m = 3 ∨ m = 4 ∨ m = 5 := by omega
  rcases e with rfl | rfl | rfl | rfl | rfl <;> decide +kernel
theorem headS_inj {m n : Int} (h0 : 1 ≤ m) (h1 : m ≤ 5) (k0 : 1 ≤ n) (k1 : n ≤ 5) (h : headS m = headS n) : m = n := by
  have e : m = 1 ∨ m = 2 ∨ m = 3 ∨ m = 4 ∨ m = 5 := by omega
  have e' : n = 1 ∨ n = 2 ∨ n = 3 ∨ n = 4 ∨ n = 5 := by omega
  rcases e with rfl | rfl | rfl | rfl | rfl <;> rcases e' with rfl | rfl | rfl | rfl | rfl <;> first | rfl | exact absurd h (by decide +kernel)
def spSw : Sp := fun vs H Q _ => ∃ l : Str, vs = [.str l] ∧ ((∃ m : Int, 1 ≤ m ∧ m ≤ 5 ∧ l = headS m ∧ Q (.int m) H) ∨ ((∀ m : Int, 1 ≤ m → m ≤ 5 → l ≠ headS m) ∧ Q .non H))
theorem scSw : FnScope ["line", "many"] ["line"] (defScope sSw) := ⟨rfl, rfl, rfl, by decide +kernel, rfl, by decide +kernel, by decide +kernel⟩
theorem ok_sw (T : TxP P K mg) : Fnc P w K mg base CX0 1 "switches_in" ["line"] spSw := by
  obtain ⟨tm, hm⟩ := T.most
  refine fnc0 T.sw scSw (fun vs H Q E h => ?_) (fun _ _ _ _ _ _ us hl => match us, hl with | [_], _ => rfl) (fun cdv A outer s H vs Q E hr h => ?_)
  · obtain ⟨l, rfl, _⟩ := h
    rfl
  · obtain ⟨l, rfl, k⟩ := h
    refine ⟨_, pss_cons (ps_for PassesOwn.never rfl (pi_range2 (by rfl) T.range (pa_cons pe_int (pa_cons (pe_op op_add (pe_glob (v := .int 5) (by rfl) hm ⟨_, rfl⟩) pe_int) pa_nil))) (pg_name (i := 1) scSw.nd rfl (Or.inl rfl))
        (pss_one (ps_if (pt_cmpR op_eq (pv 0) (pe_op op_add_str pe_str (pe_callTy call_str_int (by rfl) T.str (by decide +kernel) (pa_cons (pv 1) pa_nil))) (nomark _)) (pss_one (ps_ret (pv 1))) pss_nil)))
      (pss_one (ps_ret pe_non)), ?_⟩
    refine ⟨5, 1, rfl, rfl, 1, 6, rfl, ⟨by decide, by decide, by decide, by decide⟩, for_range (lo := 1) (n := 5) (fun i σ H2 => H2 = H ∧ (∃ x, σ = [some (.str l), x]) ∧ ∀ j : Nat, j < i → l ≠ headS (1 + j)) ⟨rfl, ⟨_, rfl⟩, fun j hj => absurd hj (Nat.not_lt_zero _)⟩ ?_ ?_⟩
    · rintro i σ H2 hi ⟨rfl, ⟨x, rfl⟩, hn⟩
      have hlen : (headS (1 + (i : Int))).length = 10 := headS_len (by omega) (by omega)
      refine ⟨_, rfl, _, rfl, _, rfl, Nat.lt_of_le_of_lt (Nat.log2_le_self _) (by omega), _, _, rfl, rfl, (by
        have e : (Str.ofString "switches ").length + (nS (1 + (i : Int))).length = (headS (1 + (i : Int))).length := by unfold headS; rw [PySem.Str.length_append]
        show (Str.ofString "switches ").length + (nS (1 + (i : Int))).length ≤ sizeLine
        rw [e, hlen]
        decide), rfl, _, rfl, ?_⟩
      have e : decide (V.str l = V.str (Str.ofString "switches " ++ Str.ofString (toString ((1 : Int) + i)))) = decide (l = headS (1 + i)) := by
        show decide (V.str l = V.str (headS (1 + i))) = _
        by_cases h : l = headS (1 + i) <;> simp [h]
      rw [e]
      refine ite2 (fun hc => ?_) (fun hc => ?_)
      · have hc := of_decide_eq_true hc
        rcases k with ⟨m, m0, m1, hl, k⟩ | ⟨hl, _⟩
        · have : m = 1 + i := headS_inj m0 m1 (by omega) (by omega) (hl.symm.trans hc)
          subst this
          exact ⟨_, rfl, k⟩
        · exact absurd hc (hl _ (by omega) (by omega))
      · have hc : ¬ l = headS (1 + i) := fun h => hc (decide_eq_true h)
        refine ⟨rfl, ⟨_, rfl⟩, fun j hj => ?_⟩
        rcases Nat.lt_or_ge j i with h | h
        · exact hn j h
        · have : j = i := by omega
          subst this
          exact hc
    · rintro σ H2 ⟨rfl, ⟨x, rfl⟩, hn⟩
      rcases k with ⟨m, m0, m1, hl, k⟩ | ⟨hl, k⟩
      · have := hn (m - 1).toNat (by omega)
        have e : (1 : Int) + ((m - 1).toNat : Int) = m := by omega
        rw [e] at this
        exact absurd hl this
      · exact k
/-- what is wanted of C(v), raised -/
def XOut (C : Addr) (k : Fk) (v : V) (H : Hp) (E : XK) : Prop := ∀ (d : Addr) (H' : Hp), Same H H' → H' d = some (.xd [(k.name, v)]) → E (.ref C) (some d) H'
theorem XOut.go {C : Addr} {k : Fk} {v : V} {H H1 : Hp} {E : XK} (x : XOut C k v H E) (s : Same H H1) {d : Addr} (hd : H1 d = none) : E (.ref C) (some d) (upd H1 d (.xd [(k.name, v)])) := x d _ (s.trans (Same.upd hd)) upd_same
abbrev nl : Str := Str.ofString "\n"
def spLines (K : PySem.W.Frag) : Sp := fun vs H Q E => ∃ v, vs = [v] ∧ ((∃ t : Str, v = .str t ∧ t.length + 2 ≤ sizeLine ∧ ∀ p, H p = none → Q (.ref p) (upd H p (.lst ((Txt.split t nl).map V.str)))) ∨
  ∃ ty, TyX K H v ty ∧ PySem.W.kitOne K ty (.type "str") = some false ∧ XOut (He.ga K "BadText") .index .non H E)
theorem scLines : FnScope ["text"] ["text"] (defScope sLines) := ⟨rfl, rfl, rfl, by decide +kernel, rfl, by decide +kernel, by decide +kernel⟩
theorem ok_lines (T : TxP P K mg) : Fnc P w K mg base (L2.CX P w) 1 "lines_of" ["text"] (spLines K) := by
  obtain ⟨gB, D, fI, cc, cda, XB⟩ := T.badText
  refine fnc T.lines scLines (fun vs H Q E h => ?_) (fun _ _ _ _ _ _ us hl => match us, hl with | [_], _ => rfl) (fun cdv A outer s H vs Q E hr h => ?_)
  · obtain ⟨v, rfl, _⟩ := h
    rfl
  · obtain ⟨v, rfl, h⟩ := h
    refine ⟨_, pss_cons (ps_if (pt_not (pt_val (pe_callB call_isi (by rfl) T.isinst (by decide +kernel) (pa_cons (pv 0) (pa_cons (pe_ty (n := "str") T.str (by rfl) (by decide +kernel)) pa_nil)))))
        (pss_one (ps_raiseP rfl XB gB hr (takes_of rfl rfl rfl rfl) (pa_cons pe_non pa_nil))) pss_nil)
      (pss_one (ps_ret (pe_split (pv 0) pe_str))), ?_⟩
    rcases h with ⟨t, rfl, hz, k⟩ | ⟨ty, h1, h2, h3⟩
    · refine ⟨_, rfl, .str t, .ty "str", _, _, true, rfl, .ty _, .base (.str t), by with_unfolding_all rfl, _, rfl, ?_⟩
      refine iteF ?_
      exact ⟨_, rfl, ⟨t, rfl⟩, t, _, rfl, rfl, by decide, hz, fun p hp => k p hp⟩
    · refine ⟨_, rfl, v, .ty "str", _, _, false, rfl, .ty _, h1, h2, _, rfl, ?_⟩
      refine iteT ?_
      exact ⟨_, rfl, fun d hd => h3.go (fun _ _ h => h) hd⟩
/-! ### arrows -/
def okA (n : Int) (a : Ar) : Prop := 0 ≤ a.1 ∧ a.1 < n ∧ 0 ≤ a.2.1 ∧ a.2.1 < n ∧ (a.2.2 = 1 ∨ a.2.2 = -1)
def spIsArrow : Sp := fun vs H Q _ => ∃ (n : Int) (v : V) (a : Ar), vs = [.int n, v] ∧ ArV H v a ∧ okA n a ∧ ∀ H', Same H H' → Q (.bl true) H'
theorem scIsArrow : FnScope ["switches", "thing", "part"] ["switches", "thing"] (defScope sIsArrow) := ⟨rfl, rfl, rfl, by decide +kernel, rfl, by decide +kernel, by decide +kernel⟩
theorem ok_isArrow (T : TxP P K mg) : Fnc P w K mg base CX0 3 "is_arrow" ["switches", "thing"] spIsArrow := by
  have GN : Fnc P w K mg base CX0 1 "is_number" ["thing"] spNum := ok_num T
  have GB : Fnc P w K mg base CX0 2 "is_between" ["thing", "low", "high"] spBtw := ok_btw T
  refine fnc0 T.isArrow scIsArrow (fun vs H Q E h => ?_) (fun _ _ _ _ _ _ us hl => match us, hl with | [_, _], _ => rfl) (fun cdv A outer s H vs Q E hr h => ?_)
  · obtain ⟨n, v, a, rfl, _⟩ := h
    rfl
  · obtain ⟨n, v, a, rfl, ⟨p, rfl, hp⟩, ok, k⟩ := h
    refine ⟨_, pss_cons (ps_if (PW.pt (pw_or (pt_not (pt_val (pe_callB call_isi (by rfl) T.isinst (by decide +kernel) (pa_cons (pv 1) (pa_cons (pe_ty (n := "tuple") T.tuple (by rfl) (by decide +kernel)) pa_nil)))))
        (pw_or (pt_cmpR op_ne (pe_callB call_len_seq (by rfl) T.len PySem.boot_len (pa_cons (pv 1) pa_nil)) pe_int (nomark _))
        (pw_or1 (pt_not (pt_val (pe_callB (cr_all rfl) (by rfl) T.all (by decide +kernel) (pa_cons
          (pe_lc (own := [("part", 2)]) (g := gName 2) (tt := tYes) rfl scIsArrow.nd (pi_tup (pv 1)) (blkOk_by (N := ["switches", "thing", "part"]) (sc := defScope sIsArrow) (by decide +kernel))
            (fun _ _ _ _ _ => pg_name (i := 2) scIsArrow.nd rfl (Or.inl rfl)) (fun _ _ _ _ _ => pts_nil) (fun _ _ _ _ _ => pe_fn GN (hr.mono (by decide)) pass0 (pa_cons (pv 2) pa_nil))) pa_nil))))))))
        (pss_one (ps_ret pe_bl)) pss_nil)
      (pss_one (ps_ret (pe_and (pe_fn GB hr pass0 (pa_cons (pe_ix ix_tup (pv 1) pe_int (fun _ _ => rfl)) (pa_cons pe_int (pa_cons (pe_op op_sub (pv 0) pe_int) pa_nil))))
        (pe_and (pe_fn GB hr pass0 (pa_cons (pe_ix ix_tup (pv 1) pe_int (fun _ _ => rfl)) (pa_cons pe_int (pa_cons (pe_op op_sub (pv 0) pe_int) pa_nil))))
        (pe_one (pe_cmpR op_in_seq (pe_ix ix_tup (pv 1) pe_int (fun _ _ => rfl)) (pe_tup (pa_cons pe_int (pa_cons (pe_un un_neg pe_int) pa_nil))) (by with_unfolding_all rfl))))))), ?_⟩
    obtain ⟨a1, a2, a3⟩ := a
    obtain ⟨o1, o2, o3, o4, o5⟩ := ok
    simp only at o1 o2 o3 o4 o5
    -- the test
    refine ⟨_, rfl, .ref p, .ty "tuple", _, _, true, rfl, .ty _, .base (.tup hp), by with_unfolding_all rfl, _, rfl, ?_⟩
    refine iteF ?_
    refine ⟨_, rfl, p, _, rfl, .inr (SqT.of hp), rfl, _, rfl, ?_⟩
    refine iteF ?_
    refine ⟨_, rfl, _, rfl, ⟨_, SqT.of hp⟩, fun D hD => lc_tup (K := K) (a := p) (xs := (arL (a1, a2, a3)).map V.int) (fun i H2 => Same H H2 ∧ ∃ bs : List Bool, H2 D = some (.lst (bs.map V.bl)) ∧ bs.length ≤ i ∧ bs.all id = true) ⟨Same.upd hD, [], upd_same, Nat.le_refl _, rfl⟩ (fun i H2 _ h => SqT.of (h.1 _ _ hp)) ?_ ?_⟩
    · rintro i x H2 hx ⟨s2, bs, hz, hl, hb⟩
      obtain ⟨z, hz1, rfl⟩ := map_get hx
      have hi := (List.getElem?_eq_some_iff.mp hz1).1
      have hi3 : i < 3 := hi
      refine ⟨rfl, ?_⟩
      refine ⟨_, rfl, z, rfl, _, hz, small1000 (by rw [List.length_map]; omega), s2.put hD, bs ++ [true], ?_, by rw [List.length_append, List.length_singleton]; omega, by rw [List.all_append, hb]; rfl⟩
      rw [upd_same, ← map_snoc]
    · rintro H2 ⟨s2, bs, hz, hl, hb⟩
      refine ⟨D, bs, rfl, SqL.of hz, _, rfl, ?_⟩
      rw [hb]
      refine iteF ?_
      have hp2 : H2 p = some (.tup ((arL (a1, a2, a3)).map V.int)) := s2 _ _ hp
      -- the answer
      refine ⟨_, rfl, _, _, (0 : Int), V.int a1, rfl, rfl, SqT.of hp2, rfl, _, rfl, _, _, rfl, rfl, a1, 0, n - 1, rfl, true, ?_, iteT ?_⟩
      · rw [decide_eq_true o1, decide_eq_true (show a1 ≤ n - 1 by omega)]; rfl
      refine ⟨_, rfl, _, _, (1 : Int), V.int a2, rfl, rfl, SqT.of hp2, rfl, _, rfl, _, _, rfl, rfl, a2, 0, n - 1, rfl, true, ?_, iteT ?_⟩
      · rw [decide_eq_true o3, decide_eq_true (show a2 ≤ n - 1 by omega)]; rfl
      refine ⟨_, rfl, _, _, (2 : Int), V.int a3, rfl, rfl, SqT.of hp2, rfl, 1, rfl, by decide, fun q hq => ?_⟩
      refine ⟨q, _, rfl, .inr (SqT.of upd_same), rfl, rfl, ?_⟩
      have e : inV (.int a3) [.int 1, .int (-1)] = true := by
        rcases o5 with rfl | rfl <;> decide
      show Q (.bl (inV (.int a3) [.int 1, .int (-1)])) _
      rw [e]
      exact k _ (s2.trans (Same.upd hq))
end
end K3
set_option maxHeartbeats 4000000
namespace K3
open PySem L2 PySem.EX PyProof.Rows
section
variable {P : Program} {w : World} {K : PySem.W.Frag} {mg : Str → Option Value} {base : Heap}
def arKey (a : Ar) : List Key := (arL a).map Sum.inl
theorem arKey_V (a : Ar) : (arKey a).map kV = (arL a).map V.int := by
  unfold arKey
  rw [List.map_map]
  rfl
theorem arKey_inj {a b : Ar} (h : arKey a = arKey b) : a = b := arL_inj ((List.map_inj_right (fun _ _ e => Sum.inl.inj e)).mp h)
def known (as : List Ar) : List (List Key × V) := as.map fun a => (arKey a, V.non)
theorem known_none {as : List Ar} {a : Ar} (h : a ∉ as) : valV (known as) (arKey a) = none := by
  unfold valV known
  rw [Option.map_eq_none_iff, List.find?_eq_none]
  intro x hx
  obtain ⟨b, hb, rfl⟩ := List.mem_map.mp hx
  intro q
  exact h (by rw [← arKey_inj (of_decide_eq_true q)]; exact hb)
theorem known_put {as : List Ar} {a : Ar} (h : a ∉ as) : putK (known as) (arKey a) .non = known (as ++ [a]) := by
  have e : ((known as).any fun kv => decide (kv.1 = arKey a)) = false := by
    rw [List.any_eq_false]
    intro x hx
    unfold known at hx
    obtain ⟨b, hb, rfl⟩ := List.mem_map.mp hx
    intro q
    exact h (by rw [← arKey_inj (of_decide_eq_true q)]; exact hb)
  unfold putK
  rw [e, if_neg (by decide)]
  unfold known
  rw [List.map_append]
  rfl
theorem arV_tup {H : Hp} {v : V} {a : Ar} (h : ArV H v a) : ∃ p, v = .ref p ∧ H p = some (.tup ((arKey a).map kV)) := by
  obtain ⟨p, e, h⟩ := h
  exact ⟨p, e, by rw [arKey_V]; exact h⟩
def spNeedA (K : PySem.W.Frag) : Sp := fun vs H Q _ => ∃ (n : Int) (a : Addr) (xs : List V) (as : List Ar), vs = [.int n, .ref a] ∧ 1 ≤ n ∧ n ≤ 5 ∧ TyX K H (.ref a) (.type "list") ∧ SqL K H a xs ∧ Ars H xs as ∧ (∀ x ∈ as, okA n x) ∧ as.Nodup ∧ as.length < 1000 ∧ ∀ H', Same H H' → Q .non H'
theorem scNeedA : FnScope ["switches", "arrows", "known", "index", "arrow"] ["switches", "arrows"] (defScope sNeedA) := ⟨rfl, rfl, rfl, by decide +kernel, rfl, by decide +kernel, by decide +kernel⟩
theorem ok_needA (T : TxP P K mg) : Fnc P w K mg base CX0 4 "need_arrows" ["switches", "arrows"] (spNeedA K) := by
  have GB : Fnc P w K mg base CX0 2 "is_between" ["thing", "low", "high"] spBtw := ok_btw T
  have GL : Fnc P w K mg base CX0 1 "is_list" ["thing"] (spLst K) := ok_lst T
  have GA : Fnc P w K mg base CX0 3 "is_arrow" ["switches", "thing"] spIsArrow := ok_isArrow T
  obtain ⟨tm, hm⟩ := T.most
  refine fnc0 T.needA scNeedA (fun vs H Q E h => ?_) (fun _ _ _ _ _ _ us hl => match us, hl with | [_, _], _ => rfl) (fun cdv A outer s H vs Q E hr h => ?_)
  · obtain ⟨n, a, xs, as, rfl, _⟩ := h
    rfl
  · obtain ⟨n, a, xs, as, rfl, n0, n1, ty, hS, hA, ok, nd, hlt, k⟩ := h
    have hu := hu_of hr
    refine ⟨_, pss_cons (ps_if (pt_not (pt_val (pe_fn GB (hr.mono (by decide)) pass0 (pa_cons (pv 0) (pa_cons pe_int (pa_cons (pe_glob (v := .int 5) (by rfl) hm ⟨_, rfl⟩) pa_nil)))))) (pss_one ps_never) pss_nil)
      (pss_cons (ps_if (pt_not (pt_val (pe_fn GL (hr.mono (by decide)) pass0 (pa_cons (pv 1) pa_nil)))) (pss_one ps_never) pss_nil)
      (pss_cons (ps_set (i := 2) scNeedA.nd rfl (Or.inl rfl) pe_dnewT)
      (pss_one (ps_for PassesOwn.never rfl (pi_enum (by rfl) T.enum (pa_cons (pv 1) pa_nil)) (pg_tup rfl (pgs_cons (pg_name (i := 3) scNeedA.nd rfl (Or.inl rfl)) (pgs_cons (pg_name (i := 4) scNeedA.nd rfl (Or.inl rfl)) pgs_nil)))
        (pss_cons (ps_if (PW.pt (pw_or (pt_not (pt_val (pe_fn GA hr pass0 (pa_cons (pv 0) (pa_cons (pv 4) pa_nil))))) (pw_or1 (pt_cmp (pc_din hu (pv 4) (pv 2)))))) (pss_one ps_never) pss_nil)
        (pss_one (ps_dput hu (pv 2) (pv 4) pe_non rfl))))))), ?_⟩
    refine ⟨_, rfl, n, 1, 5, rfl, true, ?_, iteF ?_⟩
    · rw [decide_eq_true n0, decide_eq_true n1]; rfl
    refine ⟨_, rfl, _, _, true, rfl, ty, by with_unfolding_all rfl, fun H1 s1 => ⟨_, rfl, iteF ?_⟩⟩
    refine fun D hD => ?_
    have nD : H D = none := s1.free hD
    have sD : Same H (upd H1 D (.dT [])) := s1.put nD
    refine ⟨_, rfl, a, xs, rfl, sD.seq hS, for_it walk_enum (fun i σ H2 => ∃ u v, σ = [some (.int n), some (.ref a), some (.ref D), u, v] ∧ Same H H2 ∧ H2 D = some (.dT (known (as.take i)))) ⟨none, none, rfl, sD, upd_same⟩ (fun i σ H2 _ ⟨u, v, _, s2, _⟩ => s2.seq hS) ?_ ?_⟩
    · rintro i x σ H2 H3 hi ⟨u, v, rfl, s2, hD2⟩ ⟨p, x1, x2, rfl, hp, rfl, e1, e2⟩
      cases e1
      obtain ⟨b, hb, hv⟩ := Ars.get hA e2
      have hi' : i < as.length := (List.getElem?_eq_some_iff.mp hb).1
      have s3 : Same H2 (upd H2 p (.tup [V.int i, x2])) := Same.upd hp
      have hv3 : ArV (upd H2 p (.tup [V.int i, x2])) x2 b := hv.keep (s2.trans s3).tups
      have hmem : b ∈ as := List.mem_of_getElem? hb
      refine ⟨p, _, rfl, SqT.of upd_same, rfl, ?_⟩
      refine ⟨_, _, rfl, ⟨_, _, rfl, rfl, ?_⟩⟩
      refine ⟨_, rfl, _, rfl, n, x2, b, rfl, hv3, ok b hmem, fun H4 s4 => ⟨_, rfl, iteF ?_⟩⟩
      obtain ⟨q, rfl, hq⟩ := arV_tup (hv3.keep s4.tups)
      have hD4 : H4 D = some (.dT (known (as.take i))) := s4 _ _ (s3 _ _ hD2)
      have hn : b ∉ as.take i := fun z => by
        obtain ⟨j, hj, e⟩ := List.mem_iff_getElem.mp z
        rw [List.length_take] at hj
        rw [List.getElem_take] at e
        have e2 : as[j]? = some b := by rw [List.getElem?_eq_getElem (by omega), e]
        have : j = i := (List.getElem?_inj (by omega) nd).mp (e2.trans hb.symm)
        omega
      refine ⟨_, rfl, _, rfl, D, _, rfl, DGet.t hD4 hq, _, rfl, ?_⟩
      rw [known_none hn]
      refine iteF ?_
      refine ⟨_, rfl, _, rfl, D, _, rfl, DPut.t hD4 hq (by unfold known; rw [List.length_map, List.length_take]; exact Nat.lt_of_le_of_lt (Nat.min_le_left _ _) (Nat.lt_trans (by omega : i < 1000) (by decide))), ?_⟩
      refine ⟨_, _, rfl, ((s2.trans s3).trans s4).put nD, ?_⟩
      rw [upd_same, known_put hn, List.take_succ, hb]
      rfl
    · rintro σ H2 ⟨u, v, rfl, s2, hD2⟩
      exact k _ s2
/-! ### the class Plan -/
def clsBody : Stmt → List Stmt
  | .ClassDef (body := b) .. => b
  | _ => []
abbrev mst (i : Nat) : Stmt := (clsBody (top 19)).getD i (.Pass ⟨0, 0, 0, 0⟩)
abbrev cP (K : PySem.W.Frag) : Addr := He.ga K "Plan"
structure TxC (K : PySem.W.Frag) (mg : Str → Option Value) : Prop where
  glo : mg "Plan" = some (.ref (cP K))
  sorted : mg "sorted" = none
  cls : Cls K (cP K)
  mkr : Mk K (cP K) (He.ma K (cP K) "__init__")
  init : ∃ fd, FunD K "__init__" "Plan.__init__" (defArgs (mst 0)) (defBody (mst 0)) (defScope (mst 0)) [] [] (He.ma K (cP K) "__init__") fd
  noS : NoAttr K (cP K) "own_switches"
  noA : NoAttr K (cP K) "own_arrows"
  sw : ∃ p g fd, PropOf K (cP K) "switches" p g ∧ FunD K "switches" "Plan.switches" (defArgs (mst 1)) (defBody (mst 1)) (defScope (mst 1)) [] [] g fd
  ar : ∃ p g fd, PropOf K (cP K) "arrows" p g ∧ FunD K "arrows" "Plan.arrows" (defArgs (mst 2)) (defBody (mst 2)) (defScope (mst 2)) [] [] g fd
  eqf : PySem.W.findIn K (.ref (cP K)) "__eq__" = some (some (.ref (He.ma K (cP K) "__eq__")))
  eqn : PySem.W.isFn K (.ref (He.ma K (cP K) "__eq__")) = true
  eq : ∃ fd, FunD K "__eq__" "Plan.__eq__" (defArgs (mst 3)) (defBody (mst 3)) (defScope (mst 3)) [] [] (He.ma K (cP K) "__eq__") fd
  ne : PySem.W.findIn K (.ref (cP K)) "__ne__" = some (some (.builtin "object.__ne__"))
  ob : PySem.W.subIn K (.ref (cP K)) (.type "object") = some true
  ha : PySem.W.findIn K (.ref (cP K)) "__class__" = some (some (.builtin "object.__class__"))
  hn : PySem.W.specialIn K (.builtin "object.__class__") "__get__" = some (some (.builtin "getset_descriptor.__get__"))
  htk : PySem.W.takesIn K (.builtin "object.__class__") = some true
  hm : PySem.W.mroIn K (cP K) (.type "object") = some true
  nNone : PySem.W.kitOne K (.type "NoneType") (.ref (cP K)) = some false
  nInt : PySem.W.kitOne K (.type "int") (.ref (cP K)) = some false
  nStr : PySem.W.kitOne K (.type "str") (.ref (cP K)) = some false
def plF (n : Int) (t : Addr) : List (Str × V) := [("own_switches", .int n), ("own_arrows", .ref t)]
/-- a plan stands at x -/
def PlanAt (K : PySem.W.Frag) (H : Hp) (x : Addr) (n : Int) (as : List Ar) : Prop := ∃ dx t ys, H x = some (.ins (cP K) dx (plF n t)) ∧ H t = some (.tup ys) ∧ Ars H ys as
theorem PlanAt.same {H H' : Hp} {x : Addr} {n : Int} {as : List Ar} (h : PlanAt K H x n as) (s : Same H H') : PlanAt K H' x n as := by
  obtain ⟨dx, t, ys, h1, h2, h3⟩ := h
  exact ⟨dx, t, ys, s _ _ h1, s _ _ h2, h3.keep s.tups⟩
theorem PlanAt.but {H H' : Hp} {x t l c : Addr} {n : Int} {as : List Ar} (h : PlanAt K H x n as) (b : But t l H H') (T : Tape H t l c) : PlanAt K H' x n as := by
  obtain ⟨dx, t', ys, h1, h2, h3⟩ := h
  obtain ⟨r, m, lg, cs, e1, e2, _⟩ := T.ex
  exact ⟨dx, t', ys, b _ _ h1 (ne_of h1 e1 (by intro z; cases z)) (ne_of h1 e2 (by intro z; cases z)), b.tups T _ _ h2, h3.keep (b.tups T)⟩
def spInit (K : PySem.W.Frag) : Sp := fun vs H Q _ => ∃ (x dx : Addr) (n : Int) (a : Addr) (xs : List V) (as : List Ar), vs = [.ref x, .int n, .ref a] ∧ H x = some (.ins (cP K) dx []) ∧ 1 ≤ n ∧ n ≤ 5 ∧ TyX K H (.ref a) (.type "list") ∧ SqL K H a xs ∧ Ars H xs as ∧ (∀ y ∈ as, okA n y) ∧ as.Nodup ∧ as.length < 1000 ∧
  ∀ H', (∀ b o, b ≠ x → H b = some o → H' b = some o) → PlanAt K H' x n (as.mergeSort le3) → Q .non H'
theorem scInit : FnScope ["self", "switches", "arrows"] ["self", "switches", "arrows"] (defScope (mst 0)) := ⟨rfl, rfl, rfl, by decide +kernel, rfl, by decide +kernel, by decide +kernel⟩
theorem FnOk_of {CX : CXT} {f : Addr} {fd : FuncData} {x q : Str} {st : Stmt} {N ps : List Str} {k : Nat} {sp : Sp} (F : FunD K x q (defArgs st) (defBody st) (defScope st) [] [] f fd) (S : FnScope N ps (defScope st)) (len : ∀ vs H Q E, sp vs H Q E → vs.length = ps.length)
    (hbody : ∀ (cdv : Value) (A : Around) (outer : List Env) (s : Shared) (H : Hp) (vs : List V) (Q : VK) (E : XK), Room k (A.deeper (envOfC q (defScope st) s.heap.objs.size f cdv)) → sp vs H Q E →
      ∃ t, PSs (cxOf CX P w K mg base N q (defScope st) f cdv A outer s H E).nox (defBody st) t ∧ t { nx := fun _ H' => Q .non H', rt := Q } (start N vs) H) : FnOk P w K mg base CX (k + 1) f fd ps sp :=
  F.ok S len fun cdv A outer s H vs Q E hr h => by
    obtain ⟨t, h1, h2⟩ := hbody cdv A outer s H vs Q E hr h
    exact ⟨t, h1.nox, h2⟩
theorem SqL_updI {H : Hp} {a x C d : Addr} {fs : List (Str × V)} {xs : List V} {o : HO} (h : SqL K H a xs) (hx : H x = some (.ins C d fs)) : SqL K (upd H x o) a xs := by
  rcases h with (h | ⟨o, h⟩) | h
  · exact .inl (.inl (by rw [upd_ne (ne_of h hx (by intro z; cases z))]; exact h))
  · exact .inl (.inr ⟨o, by rw [upd_ne (ne_of h hx (by intro z; cases z))]; exact h⟩)
  · exact .inr h
theorem tups_updI {H : Hp} {x C d : Addr} {fs : List (Str × V)} {o : HO} (hx : H x = some (.ins C d fs)) : ∀ b xs, H b = some (.tup xs) → (upd H x o) b = some (.tup xs) := fun b xs e => by
  rw [upd_ne (ne_of e hx (by intro z; cases z))]; exact e
theorem ok_init (T : TxP P K mg) (C : TxC K mg) : ∃ fd, FnOk P w K mg base CX0 5 (He.ma K (cP K) "__init__") fd ["self", "switches", "arrows"] (spInit K) ∧ Binds K fd ["self", "switches", "arrows"] [] := by
  have GA : Fnc P w K mg base CX0 4 "need_arrows" ["switches", "arrows"] (spNeedA K) := ok_needA T
  obtain ⟨fd, F⟩ := C.init
  refine ⟨fd, FnOk_of (k := 4) F scInit (fun vs H Q E h => ?_) (fun cdv A outer s H vs Q E hr h => ?_), F.bindsN (fun _ _ _ _ _ _ us hl => match us, hl with | [_, _, _], _ => rfl)⟩
  · obtain ⟨x, dx, n, a, xs, as, rfl, _⟩ := h
    rfl
  · obtain ⟨x, dx, n, a, xs, as, rfl, hx, n0, n1, ty, hS, hA, ok, nd, hlt, k⟩ := h
    have hu := hu_of hr
    refine ⟨_, pss_cons (ps_expr (pe_fn GA hr pass0 (pa_cons (pv 1) (pa_cons (pv 2) pa_nil))))
      (pss_cons (ps_fld (pv 0) (pv 1) rfl)
      (pss_one (ps_fld (pv 0) (pe_callTy call_tuple_of (by rfl) T.tuple (by decide +kernel) (pa_cons (pe_callB (cr_sortA hr.units) (by rfl) C.sorted (by decide +kernel) (pa_cons (pv 2) pa_nil)) pa_nil)) rfl))), ?_⟩
    refine ⟨_, rfl, _, rfl, n, a, xs, as, rfl, n0, n1, ty, hS, hA, ok, nd, hlt, fun H1 s1 => ?_⟩
    have hx1 := s1 _ _ hx
    refine ⟨_, rfl, _, rfl, x, _, dx, _, rfl, hx1, C.cls, C.noS, by decide, ?_⟩
    refine ⟨_, rfl, a, xs, as, rfl, SqL_updI (s1.seq hS) hx1, (hA.keep s1.tups).keep (tups_updI hx1), fun p ys hp hys => ?_⟩
    refine ⟨p, ys, rfl, .inl ⟨SqL.of upd_same, fun t ht => ?_⟩⟩
    have px : x ≠ p := ne_of_none (upd_same (H := H1)) hp
    have tp : p ≠ t := ne_of_none upd_same ht
    have ht1 := (Same.upd hp).free ht
    have tx : x ≠ t := ne_of_none (upd_same (H := H1)) ht1
    have e : (upd (upd (upd H1 x (.ins (cP K) dx (putF "own_switches" (.int n) []))) p (.lst ys)) t (.tup ys)) x = some (.ins (cP K) dx (putF "own_switches" (.int n) [])) := by
      rw [upd_ne tx, upd_ne px, upd_same]
    refine ⟨_, rfl, x, _, dx, _, rfl, e, C.cls, C.noA, Nat.lt_of_le_of_lt (show _ ≤ 1 from Nat.le_refl _) (by decide), ?_⟩
    have hp1 : H1 p = none := by rw [← hp, upd_ne (Ne.symm px)]
    have ht0 : H1 t = none := by rw [← ht1, upd_ne (Ne.symm tx)]
    refine k _ (fun b o hb e => ?_) ⟨dx, t, ys, ?_, ?_, ?_⟩
    · have e1 := s1 _ _ e
      rw [upd_ne hb, upd_ne (ne_of_none e1 ht0), upd_ne (ne_of_none e1 hp1), upd_ne hb]
      exact e1
    · rw [upd_same]
      rfl
    · rw [upd_ne (Ne.symm tx), upd_same]
    · exact ((hys.keep (Same.upd hp).tups).keep (Same.upd ht).tups).keep (tups_updI e)
end
end K3
set_option maxHeartbeats 4000000
namespace K3
open PySem L2 PySem.EX PyProof.Rows
section
variable {P : Program} {w : World} {K : PySem.W.Frag} {mg : Str → Option Value} {base : Heap}
/-! ### the properties -/
structure Prp (P : Program) (w : World) (K : PySem.W.Frag) (mg : Str → Option Value) (base : Heap) (f q : Str) : Prop where
  ex : ∃ p g fd, PropOf K (cP K) f p g ∧ FnOk P w K mg base CX0 1 g fd ["self"] (getSp (cP K) q) ∧ Binds K fd ["self"] []
theorem scSelf1 : FnScope ["self"] ["self"] (defScope (mst 1)) := ⟨rfl, rfl, rfl, by decide +kernel, rfl, by decide +kernel, by decide +kernel⟩
theorem scSelf2 : FnScope ["self"] ["self"] (defScope (mst 2)) := ⟨rfl, rfl, rfl, by decide +kernel, rfl, by decide +kernel, by decide +kernel⟩
theorem prp_sw (C : TxC K mg) : Prp P w K mg base "switches" "own_switches" := by
  obtain ⟨p, g, fd, hp, F⟩ := C.sw
  refine ⟨p, g, fd, hp, ?_, F.bindsN (fun _ _ _ _ _ _ us hl => match us, hl with | [_], _ => rfl)⟩
  obtain ⟨oc, od, dV, kV, doc, pm, an, cdv, ct, osl, rfl, lk, hcd, _, _⟩ := F.ex
  exact fn_getter lk hcd scSelf1 rfl rfl C.cls C.noS
theorem prp_ar (C : TxC K mg) : Prp P w K mg base "arrows" "own_arrows" := by
  obtain ⟨p, g, fd, hp, F⟩ := C.ar
  refine ⟨p, g, fd, hp, ?_, F.bindsN (fun _ _ _ _ _ _ us hl => match us, hl with | [_], _ => rfl)⟩
  obtain ⟨oc, od, dV, kV, doc, pm, an, cdv, ct, osl, rfl, lk, hcd, _, _⟩ := F.ex
  exact fn_getter lk hcd scSelf2 rfl rfl C.cls C.noA
theorem pe_prp {X : Cx} {e : Expr} {ta : TE} {f q : Str} {pos : Pos} (he : PE X e ta) (C : TxC X.K X.mg) (R : Prp X.prog X.w X.K X.mg X.base f q) (hr : Room 2 X.A) (hab : attributeBase e f X.env (eval e X.env) = eval e X.env := by rfl) :
    PE X (.Attribute e f pos) (tProp (cP X.K) (getSp (cP X.K) q) [] E0 ta) := by
  obtain ⟨p, g, fd, hp, F, b⟩ := R.ex
  exact pe_prop he C.cls hp F hr b .nil pass0 hab
/-! ### == of plans -/
def plD (n : Int) (as : List Ar) : PyData := .tuple [.int n, .tuple (as.map arD)]
theorem shaped_pl (n : Int) (as : List Ar) : SeqAt.shaped (plD n as) = true := by
  refine shaped_of ?_ ?_
  · unfold plD
    rw [PyData.canLay0]
    show (true && PyData.canLayAll0 [.tuple (as.map arD)]) = true
    rw [Bool.true_and, PyData.canLayAll0, PyData.canLay0, lay_map lay_ar as]
    rfl
  · unfold plD
    rw [PyData.depth, PyData.depthAll, PyData.depthAll, PyData.depthAll, PyData.depth, PyData.depth]
    have := dep_map dep_ar as
    omega
theorem eqv_pl (n m : Int) (as bs : List Ar) : (plD n as).eqv (plD m bs) = (decide (n = m) && decide (as = bs)) := by
  unfold plD
  rw [PyData.eqv, PyData.eqvAll, PyData.eqvAll, PyData.eqvAll, eqv_int, eqv_ars, Bool.and_true]
def spEqP (K : PySem.W.Frag) : Sp := fun vs H Q _ => ∃ (x y : Addr) (n m : Int) (as bs : List Ar), vs = [.ref x, .ref y] ∧ PlanAt K H x n as ∧ PlanAt K H y m bs ∧ ∀ H', Same H H' → Q (.bl (decide (n = m) && decide (as = bs))) H'
theorem scEq : FnScope ["self", "other"] ["self", "other"] (defScope (mst 3)) := ⟨rfl, rfl, rfl, by decide +kernel, rfl, by decide +kernel, by decide +kernel⟩
theorem ty_plan (C : TxC K mg) {H : Hp} {x : Addr} {n : Int} {as : List Ar} (h : PlanAt K H x n as) : TyX K H (.ref x) (.ref (cP K)) := by
  obtain ⟨dx, t, ys, h1, _⟩ := h
  exact .base (.ins h1 C.cls C.ha C.hn C.htk C.hm)
theorem kit_same {t : Value} : PySem.W.kitOne K t t = some true := by unfold PySem.W.kitOne; rw [if_pos (by simp)]
theorem ok_eqP (T : TxP P K mg) (C : TxC K mg) : ∃ fd, FnOk P w K mg base CX0 1 (He.ma K (cP K) "__eq__") fd ["self", "other"] (spEqP K) ∧ Binds K fd ["self", "other"] [] := by
  obtain ⟨fd, F⟩ := C.eq
  refine ⟨fd, FnOk_of (k := 0) F scEq (fun vs H Q E h => ?_) (fun cdv A outer s H vs Q E hr h => ?_), F.bindsN (fun _ _ _ _ _ _ us hl => match us, hl with | [_, _], _ => rfl)⟩
  · obtain ⟨x, y, n, m, as, bs, rfl, _⟩ := h
    rfl
  · obtain ⟨x, y, n, m, as, bs, rfl, hx, hy, k⟩ := h
    refine ⟨_, pss_cons (ps_if (pt_not (pt_val (pe_callB call_isi (by rfl) T.isinst (by decide +kernel) (pa_cons (pv 1) (pa_cons (pe_glob (v := .ref (cP K)) (by rfl) C.glo rfl) pa_nil))))) (pss_one (ps_ret pe_bl)) pss_nil)
      (pss_one (ps_ret (pe_cmpR (op_eqD hr.units) (pe_tup (pa_cons (pe_fld (pv 0) rfl) (pa_cons (pe_fld (pv 0) rfl) pa_nil))) (pe_tup (pa_cons (pe_fld (pv 1) rfl) (pa_cons (pe_fld (pv 1) rfl) pa_nil))) (nomark _)))), ?_⟩
    refine ⟨_, rfl, .ref y, .ref (cP K), _, _, true, rfl, .own _, ty_plan C hy, kit_same, _, rfl, iteF ?_⟩
    obtain ⟨dx, t, ys, h1, h2, h3⟩ := id hx
    obtain ⟨dy, u, zs, j1, j2, j3⟩ := id hy
    refine ⟨_, rfl, x, _, _, _, _, rfl, h1, C.cls, C.noS, rfl, _, rfl, x, _, _, _, _, rfl, h1, C.cls, C.noA, rfl, (by show 2 ≤ sizeLine; decide), fun p hp => ?_⟩
    have s1 : Same H (upd H p (.tup [V.int n, V.ref t])) := Same.upd hp
    refine ⟨_, rfl, y, _, _, _, _, rfl, s1 _ _ j1, C.cls, C.noS, rfl, _, rfl, y, _, _, _, _, rfl, s1 _ _ j1, C.cls, C.noA, rfl, (by show 2 ≤ sizeLine; decide), fun q hq => ?_⟩
    have s2 : Same (upd H p (.tup [V.int n, V.ref t])) (upd (upd H p (.tup [V.int n, V.ref t])) q (.tup [V.int m, V.ref u])) := Same.upd hq
    have s3 := s1.trans s2
    refine ⟨plD n as, plD m bs, .tup (SqT.of (s2 _ _ upd_same)) (.cons (.int _) (.cons (.tup (SqT.of (s3 _ _ h2)) (h3.keep s3.tups).dp) .nil)), .tup (SqT.of upd_same) (.cons (.int _) (.cons (.tup (SqT.of (s3 _ _ j2)) (j3.keep s3.tups).dp) .nil)), shaped_pl _ _, shaped_pl _ _, ?_⟩
    rw [eqv_pl]
    exact k _ s3
/-! ### need_plan -/
abbrev sNeedP : Stmt := top 20
structure TxQ (K : PySem.W.Frag) (mg : Str → Option Value) : Prop where
  needP : (∃ fd, FunD K "need_plan" "need_plan" (defArgs sNeedP) (defBody sNeedP) (defScope sNeedP) [.non] [] (He.ga K "need_plan") fd) ∧ mg "need_plan" = some (.ref (He.ga K "need_plan"))
  line : Def K mg "plan_line" (top 23)
  text : Def K mg "plan_text" (top 24)
def spNeedP (K : PySem.W.Frag) : Sp := fun vs H Q E => ∃ v u, vs = [v, u] ∧ ((∃ x n as, v = .ref x ∧ PlanAt K H x n as ∧ Q .non H) ∨ ∃ ty, TyX K H v ty ∧ PySem.W.kitOne K ty (.ref (cP K)) = some false ∧ XOut (He.ga K "NoPlan") .part u H E)
theorem scNeedP : FnScope ["plan", "part"] ["plan", "part"] (defScope sNeedP) := ⟨rfl, rfl, rfl, by decide +kernel, rfl, by decide +kernel, by decide +kernel⟩
theorem ok_needP (T : TxP P K mg) (C : TxC K mg) (U : TxQ K mg) : ∃ fd, FnOk P w K mg base (L2.CX P w) 1 (He.ga K "need_plan") fd ["plan", "part"] (spNeedP K) ∧ ∃ ds, Vals [.non] ds ∧ Binds K fd ["plan", "part"] ds := by
  obtain ⟨⟨fd, F⟩, g⟩ := U.needP
  obtain ⟨gN, D, fI, cc, cda, XN⟩ := T.noPlan
  refine ⟨fd, F.ok (k := 0) scNeedP (fun vs H Q E h => ?_) (fun cdv A outer s H vs Q E hr h => ?_), F.binds1 1 0 (by simp) rfl (fun T kV doc pm an cdv ct us its h1 h2 => match us, its, h1, h2 with | [u], [i], _, _ => ⟨_, rfl, rfl⟩)⟩
  · obtain ⟨v, u, rfl, _⟩ := h
    rfl
  · obtain ⟨v, u, rfl, h⟩ := h
    refine ⟨_, pss_one (ps_if (pt_not (pt_val (pe_callB call_isi (by rfl) T.isinst (by decide +kernel) (pa_cons (pv 0) (pa_cons (pe_glob (v := .ref (cP K)) (by rfl) C.glo rfl) pa_nil)))))
      (pss_one (ps_raiseP rfl XN gN hr (takes_of rfl rfl rfl rfl) (pa_cons (pv 1) pa_nil))) pss_nil), ?_⟩
    rcases h with ⟨x, n, as, rfl, hx, k⟩ | ⟨ty, h1, h2, h3⟩
    · exact ⟨_, rfl, .ref x, .ref (cP K), _, _, true, rfl, .own _, ty_plan C hx, kit_same, _, rfl, iteF k⟩
    · refine ⟨_, rfl, v, .ref (cP K), _, _, false, rfl, .own _, h1, h2, _, rfl, iteT ?_⟩
      exact ⟨_, rfl, _, rfl, fun d hd => h3.go (fun _ _ h => h) hd⟩
/-! ### the text of a plan -/
def signS (s : Int) : Str := if s = 1 then Str.ofString " helps " else Str.ofString " hinders "
def lineS (a : Ar) : Str := nS a.1 ++ signS a.2.2 ++ nS a.2.1
def linesS (n : Int) (as : List Ar) : List Str := headS n :: as.map lineS
def textS (n : Int) (as : List Ar) : Str := Txt.join nl (linesS n as)
theorem nS_len {i : Int} (h0 : 0 ≤ i) (h1 : i < 10) : (nS i).length = 1 := by
  obtain ⟨n, rfl⟩ := Int.eq_ofNat_of_zero_le h0
  unfold nS
  rw [TL.len_tl, TL.tl_num, TL.numL_lt (by omega)]
  rfl
theorem signS_len (s : Int) : (signS s).length ≤ 9 := by
  unfold signS
  split <;> decide +kernel
theorem app_len (x y : Str) : (x ++ y).length = x.length + y.length := PySem.Str.length_append ..
theorem lineS_len {n : Int} {a : Ar} (h : okA n a) (hn : n ≤ 5) : (lineS a).length ≤ 11 := by
  obtain ⟨h1, h2, h3, h4, _⟩ := h
  unfold lineS
  rw [app_len, app_len, nS_len h1 (by omega), nS_len h3 (by omega)]
  have := signS_len a.2.2
  omega
theorem log_small {i : Int} (h : i.natAbs < 1000) : i.natAbs.log2 < 1920 := Nat.lt_of_le_of_lt (Nat.log2_le_self _) (by omega)
theorem line_small {n : Nat} (h : n ≤ 1000) : n ≤ sizeLine := line1000 h
def spLine : Sp := fun vs H Q _ => ∃ (n : Int) (v : V) (a : Ar), vs = [v] ∧ ArV H v a ∧ okA n a ∧ n ≤ 5 ∧ Q (.str (lineS a)) H
theorem scLine : FnScope ["arrow"] ["arrow"] (defScope (top 23)) := ⟨rfl, rfl, rfl, by decide +kernel, rfl, by decide +kernel, by decide +kernel⟩
theorem ok_line (T : TxP P K mg) (U : TxQ K mg) : Fnc P w K mg base CX0 1 "plan_line" ["arrow"] spLine := by
  refine fnc0 U.line scLine (fun vs H Q E h => ?_) (fun _ _ _ _ _ _ us hl => match us, hl with | [_], _ => rfl) (fun cdv A outer s H vs Q E hr h => ?_)
  · obtain ⟨n, v, a, rfl, _⟩ := h
    rfl
  · obtain ⟨n, v, a, rfl, ⟨p, rfl, hp⟩, ok, hn, k⟩ := h
    refine ⟨_, pss_one (ps_ret (pe_op op_add_str (pe_op op_add_str (pe_callTy call_str_int (by rfl) T.str (by decide +kernel) (pa_cons (pe_ix ix_tup (pv 0) pe_int (fun _ _ => rfl)) pa_nil))
      (pe_ifExp (pt_cmpR op_eq (pe_ix ix_tup (pv 0) pe_int (fun _ _ => rfl)) pe_int (nomark _)) pe_str pe_str)) (pe_callTy call_str_int (by rfl) T.str (by decide +kernel) (pa_cons (pe_ix ix_tup (pv 0) pe_int (fun _ _ => rfl)) pa_nil)))), ?_⟩
    obtain ⟨a1, a2, a3⟩ := a
    have hl := lineS_len ok hn
    obtain ⟨o1, o2, o3, o4, o5⟩ := ok
    simp only at o1 o2 o3 o4 o5
    have l1 := nS_len o1 (by omega)
    have l2 := nS_len o3 (by omega)
    have l3 := signS_len a3
    have hT : SqT K H p ((arL (a1, a2, a3)).map V.int) := SqT.of hp
    refine ⟨_, rfl, p, _, (0 : Int), V.int a1, rfl, rfl, hT, rfl, a1, rfl, log_small (by omega), ?_⟩
    refine ⟨_, rfl, p, _, (2 : Int), V.int a3, rfl, rfl, hT, rfl, rfl, _, rfl, ?_⟩
    have go : ∀ z : Str, z = signS a3 → tOp (fun x y H Q => ∃ i j, x = .str i ∧ y = .str j ∧ i.length + j.length ≤ sizeLine ∧ Q (.str (i ++ j)) H) (tC (.str (nS a1))) (tC (.str z)) [some (.ref p)] H fun x H1 => tCB (fun xs H Q => ∃ i, xs = [.int i] ∧ i.natAbs.log2 < 1920 ∧ Q (.str (toString i)) H) (tCons (tOp (rIxT K) (tVar 0) (tC (.int 1))) tNil) [some (.ref p)] H1 fun y H2 =>
        ∃ i j, x = .str i ∧ y = .str j ∧ i.length + j.length ≤ sizeLine ∧ Q (.str (i ++ j)) H2 := by
      rintro z rfl
      refine ⟨_, _, rfl, rfl, line_small (by rw [l1]; omega), ?_⟩
      refine ⟨_, rfl, p, _, (1 : Int), V.int a2, rfl, rfl, hT, rfl, a2, rfl, log_small (by omega), _, _, rfl, rfl, line_small ?_, k⟩
      rw [app_len, l1]
      show 1 + (signS a3).length + (nS a2).length ≤ 1000
      omega
    by_cases h3 : a3 = 1
    · have e : decide (V.int a3 = V.int 1) = true := by simp [h3]
      rw [e]
      exact iteT (go _ (by unfold signS; rw [if_pos h3]))
    · have e : decide (V.int a3 = V.int 1) = false := by simp [h3]
      rw [e]
      exact iteF (go _ (by unfold signS; rw [if_neg h3]))
end
end K3
set_option maxHeartbeats 4000000
namespace K3
open PySem L2 PySem.EX PyProof.Rows
section
variable {P : Program} {w : World} {K : PySem.W.Frag} {mg : Str → Option Value} {base : Heap}
theorem sum_le {α : Type} {f : α → Nat} {m : Nat} : ∀ {l : List α}, (∀ a ∈ l, f a ≤ m) → (l.map f).sum ≤ l.length * m
  | [], _ => by simp
  | a :: l, h => by
    rw [List.map_cons, List.sum_cons, List.length_cons]
    have h1 := h a List.mem_cons_self
    have h2 := sum_le (l := l) fun b hb => h b (List.mem_cons_of_mem _ hb)
    have : (l.length + 1) * m = l.length * m + m := by rw [Nat.add_mul, Nat.one_mul]
    omega
theorem join_small {n : Int} {as : List Ar} (n0 : 1 ≤ n) (n1 : n ≤ 5) (ok : ∀ a ∈ as, okA n a) (hl : as.length ≤ 1000) : ((linesS n as).map (·.length)).sum + (linesS n as).length * nl.length ≤ 16777216 := by
  unfold linesS
  rw [List.map_cons, List.sum_cons, List.map_map, List.length_cons, List.length_map, headS_len n0 n1]
  have h := sum_le (f := (fun x : Str => x.length) ∘ lineS) (m := 11) (l := as) fun a ha => lineS_len (ok a ha) n1
  have e : nl.length = 1 := by decide +kernel
  rw [e]
  omega
def spText (K : PySem.W.Frag) : Sp := fun vs H Q E => ∃ v, vs = [v] ∧ ((∃ x n as, v = .ref x ∧ PlanAt K H x n as ∧ 1 ≤ n ∧ n ≤ 5 ∧ (∀ a ∈ as, okA n a) ∧ as.length ≤ 1000 ∧ ∀ H', Same H H' → Q (.str (textS n as)) H') ∨
  ∃ ty, TyX K H v ty ∧ PySem.W.kitOne K ty (.ref (cP K)) = some false ∧ XOut (He.ga K "NoPlan") .part .non H E)
theorem scText : FnScope ["plan", "arrow"] ["plan"] (defScope (top 24)) := ⟨rfl, rfl, rfl, by decide +kernel, rfl, by decide +kernel, by decide +kernel⟩
theorem ok_textX (T : TxP P K mg) (C : TxC K mg) (U : TxQ K mg) : FncX P w K mg base (L2.CX P w) 3 "plan_text" (top 24) ["plan"] (spText K) := by
  obtain ⟨fd, F, ds, hds, hb⟩ := ok_needP (P := P) (w := w) (base := base) T C U
  have GL : Fnc P w K mg base CX0 1 "plan_line" ["arrow"] spLine := ok_line T U
  have kp : PySem.W.keepIn K (.ref (He.ga K "need_plan")) = true := by obtain ⟨⟨fd, F⟩, _⟩ := U.needP; exact F.kp
  refine fncX U.text scText (fun vs H Q E h => ?_) (fun _ _ _ _ _ _ us hl => match us, hl with | [_], _ => rfl) (fun cdv A outer s H vs Q E hr h => ?_)
  · obtain ⟨v, rfl, _⟩ := h
    rfl
  · obtain ⟨v, rfl, h⟩ := h
    refine ⟨_, pss_cons (ps_expr (pe_call F (hr.mono (by decide)) (by rfl) U.needP.2 kp hb hds (passes_call (takes_of rfl rfl rfl rfl) (fun _ _ _ _ h => h)) (pa_cons (pv 0) pa_nil)))
      (pss_one (ps_ret (pe_join pe_str (pe_lst (pa_cons (pe_op op_add_str pe_str (pe_callTy call_str_int (by rfl) T.str (by decide +kernel) (pa_cons (pe_prp (pv 0) C (prp_sw C) hr) pa_nil)))
        (StX.pa_star (pe_lc (own := [("arrow", 1)]) (g := gName 1) (tt := tYes) rfl scText.nd (pi_tup (pe_prp (pv 0) C (prp_ar C) hr)) (blkOk_by (N := ["plan", "arrow"]) (sc := defScope (top 24)) (by decide +kernel))
            (fun _ _ _ _ _ => pg_name (i := 1) scText.nd rfl (Or.inl rfl)) (fun _ _ _ _ _ => pts_nil) (fun _ _ _ _ _ => pe_fn GL (hr.mono (by decide)) pass0 (pa_cons (pv 1) pa_nil))) pa_nil)))))), ?_⟩
    rcases h with ⟨x, n, as, rfl, hx, n0, n1, ok, hl, k⟩ | ⟨ty, h1, h2, h3⟩
    · refine ⟨_, rfl, .ref x, .non, rfl, .inl ⟨x, n, as, rfl, hx, ?_⟩⟩
      obtain ⟨dx, t, ys, p1, p2, p3⟩ := id hx
      refine ⟨⟨_, rfl⟩, ?_⟩
      refine ⟨_, rfl, x, dx, _, rfl, p1, x, dx, _, .int n, rfl, p1, rfl, n, rfl, log_small (by omega), _, _, rfl, rfl, line_small ?_, ?_⟩
      · rw [show (Str.ofString (toString n)).length = 1 from nS_len (by omega) (by omega)]
        decide +kernel
      refine ⟨_, rfl, x, dx, _, rfl, p1, x, dx, _, .ref t, rfl, p1, rfl, t, rfl, ⟨_, SqT.of p2⟩, fun D hD => lc_tup (K := K) (a := t) (xs := ys) (fun i H2 => Same H H2 ∧ H2 D = some (.lst (((as.take i).map lineS).map V.str))) ⟨Same.upd hD, upd_same⟩ (fun i H2 _ h => SqT.of (h.1 _ _ p2)) ?_ ?_⟩
      · rintro i x2 H2 hx2 ⟨s2, hz⟩
        obtain ⟨b, hb, hv⟩ := Ars.get p3 hx2
        have hi : i < as.length := (List.getElem?_eq_some_iff.mp hb).1
        refine ⟨rfl, ?_⟩
        refine ⟨_, rfl, n, x2, b, rfl, hv.keep s2.tups, ok b (List.mem_of_getElem? hb), n1, _, hz, ?_, s2.put hD, ?_⟩
        · refine small1000 ?_
          rw [List.length_map, List.length_map, List.length_take]
          omega
        · rw [upd_same, List.take_succ, hb, List.map_append, List.map_append]
          rfl
      · rintro H2 ⟨s2, hz⟩
        have hlen : ys.length = as.length := p3.length
        rw [hlen, List.take_of_length_le (Nat.le_refl _)] at hz
        have ec : V.str (headS n) :: ((as.map lineS).map V.str ++ []) = (linesS n as).map V.str := by rw [List.append_nil]; rfl
        refine ⟨D, _, rfl, .inr (SqL.of hz), ?_, fun q hq => ?_⟩
        · show (V.str (headS n) :: ((as.map lineS).map V.str ++ [])).length ≤ sizeLine
          rw [ec, List.length_map]
          unfold linesS
          rw [List.length_cons, List.length_map]
          exact Nat.le_trans (show as.length + 1 ≤ 1001 by omega) (by decide)
        · refine ⟨_, q, linesS n as, rfl, rfl, .inl (SqL.of ?_), join_small n0 n1 ok hl, k _ (s2.trans (Same.upd hq))⟩
          rw [upd_same, ← ec]
          rfl
    · exact ⟨_, rfl, v, .non, rfl, .inr ⟨ty, h1, h2, h3⟩⟩
theorem ok_text (T : TxP P K mg) (C : TxC K mg) (U : TxQ K mg) : Fnc P w K mg base (L2.CX P w) 3 "plan_text" ["plan"] (spText K) := (ok_textX T C U).fnc
end
end K3
set_option maxHeartbeats 4000000
namespace K3
open PySem L2 PySem.EX PyProof.Rows
abbrev cS (K : PySem.W.Frag) : Addr := He.ga K "PLAN_SIGNS"
structure TxS (K : PySem.W.Frag) (w : World) (mg : Str → Option Value) : Prop where
  glo : mg "PLAN_SIGNS" = some (.ref (cS K))
  kd : ∃ es n, KDict K w (cS K) es n
  miss : ∀ z : Str, z ≠ "helps" → z ≠ "hinders" → PySem.W.nsIn K (cS K) z = some none
  yes : ∃ u, PySem.W.nsIn K (cS K) "helps" = some (some u) ∧ RelV (.int 1) u
  no : ∃ u, PySem.W.nsIn K (cS K) "hinders" = some (some u) ∧ RelV (.int (-1)) u
  ain : Def K mg "plan_arrow_in" (top 25)
  read : Def K mg "read_plan" (top 26)
def wordS (s : Int) : Str := if s = 1 then "helps" else "hinders"
def wordsA (a : Ar) : List Str := [nS a.1, wordS a.2.2, nS a.2.1]
def figs (n : Int) : List Str := (List.range n.toNat).map fun i : Nat => nS (i : Int)
abbrev sp : Str := Str.ofString " "
theorem mem_figs {n : Int} {u : Str} : u ∈ figs n ↔ ∃ i : Int, 0 ≤ i ∧ i < n ∧ u = nS i := by
  unfold figs
  rw [List.mem_map]
  constructor
  · rintro ⟨i, hi, rfl⟩
    rw [List.mem_range] at hi
    exact ⟨i, by omega, by omega, rfl⟩
  · rintro ⟨i, h0, h1, rfl⟩
    exact ⟨i.toNat, by rw [List.mem_range]; omega, by rw [Int.toNat_of_nonneg h0]⟩
theorem inV_strs (u : Str) (l : List Str) : inV (.str u) (l.map V.str) = decide (u ∈ l) := by
  unfold inV
  rw [List.any_map]
  induction l with
  | nil => simp
  | cons a l ih =>
    rw [List.any_cons, ih]
    by_cases h : u = a
    · subst h
      simp [eqV]
    · have h' : ¬ a = u := fun e => h e.symm
      simp [eqV, h, h']
theorem intS {i : Int} (h0 : 0 ≤ i) (h1 : i < 10) : PySem.intText? (nS i) = some i := by
  obtain ⟨n, rfl⟩ := Int.eq_ofNat_of_zero_le h0
  exact TL.int_num (by rw [TL.numL_lt (by omega)]; show 1 ≤ 4300; decide)
section
variable {P : Program} {w : World} {K : PySem.W.Frag} {mg : Str → Option Value} {base : Heap}
def spAin : Sp := fun vs H Q _ => ∃ (l : Str) (n : Int), vs = [.str l, .int n] ∧ 0 ≤ n ∧ n ≤ 5 ∧ l.length + 2 ≤ sizeLine ∧ (Txt.split l sp).length ≤ 1000 ∧
  ((∃ a, okA n a ∧ Txt.split l sp = wordsA a ∧ ∀ v H', Same H H' → ArV H' v a → Q v H') ∨ ((∀ a, okA n a → Txt.split l sp ≠ wordsA a) ∧ ∀ H', Same H H' → Q .non H'))
theorem scAin : FnScope ["line", "switches", "words", "figures", "switch"] ["line", "switches"] (defScope (top 25)) := ⟨rfl, rfl, rfl, by decide +kernel, rfl, by decide +kernel, by decide +kernel⟩
theorem ok_ain (T : TxP P K mg) (S : TxS K w mg) : Fnc P w K mg base CX0 1 "plan_arrow_in" ["line", "switches"] spAin := by
  obtain ⟨es, en, D⟩ := S.kd
  refine fnc0 S.ain scAin (fun vs H Q E h => ?_) (fun _ _ _ _ _ _ us hl => match us, hl with | [_, _], _ => rfl) (fun cdv A outer s H vs Q E hr h => ?_)
  · obtain ⟨l, n, rfl, _⟩ := h
    rfl
  · obtain ⟨l, n, rfl, n0, n1, hl, hw, k⟩ := h
    refine ⟨_, pss_cons (ps_set (i := 2) scAin.nd rfl (Or.inl rfl) (pe_split (pv 0) pe_str))
      (pss_cons (ps_setLc (i := 3) (own := [("switch", 4)]) (g := gName 4) rfl scAin.nd rfl rfl (sw_true rfl rfl rfl (by decide +kernel)) (pi_range1 (by rfl) T.range (pa_cons (pv 1) pa_nil)) (blkOk_by (N := ["line", "switches", "words", "figures", "switch"]) (sc := defScope (top 25)) (by decide +kernel))
          (fun _ _ _ _ _ => pg_name (i := 4) scAin.nd rfl (Or.inl rfl)) (fun _ _ _ _ _ => pts_nil) (fun _ _ _ _ _ => pe_callTy call_str_int (by rfl) T.str (by decide +kernel) (pa_cons (pv 4) pa_nil)))
      (pss_cons (ps_if (PW.pt (pw_or (pt_cmpR op_ne (pe_callB call_len_seq (by rfl) T.len PySem.boot_len (pa_cons (pv 2) pa_nil)) pe_int (nomark _))
          (pw_or (pt_cmpR op_notIn_seq (pe_ix ix_list (pv 2) pe_int (fun _ _ => rfl)) (pv 3) (by with_unfolding_all rfl))
          (pw_or (pt_cmpR (op_notIn_kd D) (pe_ix ix_list (pv 2) pe_int (fun _ _ => rfl)) (pe_glob (v := .ref (cS K)) (by rfl) S.glo rfl) (by with_unfolding_all rfl))
          (pw_or1 (pt_cmpR op_notIn_seq (pe_ix ix_list (pv 2) pe_int (fun _ _ => rfl)) (pv 3) (by with_unfolding_all rfl)))))))
        (pss_one (ps_ret pe_non)) pss_nil)
      (pss_one (ps_ret (pe_tup (pa_cons (pe_callTy call_int_str (by rfl) T.int (by decide +kernel) (pa_cons (pe_ix ix_list (pv 2) pe_int (fun _ _ => rfl)) pa_nil))
        (pa_cons (pe_callTy call_int_str (by rfl) T.int (by decide +kernel) (pa_cons (pe_ix ix_list (pv 2) pe_int (fun _ _ => rfl)) pa_nil))
        (pa_cons (pe_ix ix_kdict (pe_glob (v := .ref (cS K)) (by rfl) S.glo rfl) (pe_ix ix_list (pv 2) pe_int (fun _ _ => rfl)) (fun _ _ => rfl)) pa_nil)))))))), ?_⟩
    refine ⟨_, rfl, ⟨l, rfl⟩, l, _, rfl, rfl, by decide, hl, fun p hp => ?_⟩
    have s1 : Same H (upd H p (.lst ((Txt.split l sp).map V.str))) := Same.upd hp
    refine ⟨_, rfl, n, rfl, by omega, by omega, fun F hF => lc_range (lo := 0) (n := n.toNat) (fun i H2 => Same (upd H p (.lst ((Txt.split l sp).map V.str))) H2 ∧ H2 F = some (.lst (((List.range i).map fun i : Nat => nS (i : Int)).map V.str))) ⟨Same.upd hF, upd_same⟩ ?_ ?_⟩
    · rintro i H2 hi ⟨s2, hz⟩
      refine ⟨rfl, ?_⟩
      refine ⟨_, rfl, _, rfl, log_small (by omega), _, hz, small1000 (by rw [List.length_map, List.length_map, List.length_range]; omega), s2.put hF, ?_⟩
      rw [upd_same, List.range_succ, List.map_append, List.map_append]
      have e : (0 : Int) + i = i := by omega
      rw [e]
      rfl
    · rintro H2 ⟨s2, hz⟩
      have hF2 : H2 F = some (.lst ((figs n).map V.str)) := hz
      have hp2 : H2 p = some (.lst ((Txt.split l sp).map V.str)) := s2 _ _ upd_same
      have sH : Same H H2 := s1.trans s2
      have fl : ∀ us : List Str, (us.map V.str).all flatV = true := fun us => by
        rw [List.all_map, List.all_eq_true]
        intro x _
        rfl
      generalize hws : Txt.split l sp = ws at k hp2
      rcases k with ⟨⟨a1, a2, a3⟩, ⟨o1, o2, o3, o4, o5⟩, hw, k⟩ | ⟨hno, k⟩
      · simp only at o1 o2 o3 o4 o5
        subst hw
        refine ⟨_, rfl, p, _, rfl, .inl (SqL.of hp2), rfl, _, rfl, iteF ?_⟩
        refine ⟨_, rfl, p, _, (0 : Int), V.str (nS a1), rfl, rfl, SqL.of hp2, rfl, _, rfl, F, _, rfl, .inl (SqL.of hF2), rfl, fl _, _, rfl, ?_⟩
        rw [inV_strs, decide_eq_true (mem_figs.mpr ⟨a1, o1, o2, rfl⟩)]
        refine iteF ?_
        obtain ⟨v3, e3, r3⟩ : ∃ u, PySem.W.nsIn K (cS K) (wordS a3) = some (some u) ∧ RelV (.int a3) u := by
          rcases o5 with rfl | rfl
          · exact S.yes
          · exact S.no
        refine ⟨_, rfl, p, _, (1 : Int), V.str (wordS a3), rfl, rfl, SqL.of hp2, rfl, _, _, rfl, rfl, e3, false, rfl, iteF ?_⟩
        refine ⟨_, rfl, p, _, (2 : Int), V.str (nS a2), rfl, rfl, SqL.of hp2, rfl, _, rfl, F, _, rfl, .inl (SqL.of hF2), rfl, fl _, _, rfl, ?_⟩
        rw [inV_strs, decide_eq_true (mem_figs.mpr ⟨a2, o3, o4, rfl⟩)]
        refine iteF ?_
        have i1 : (nS a1).length = 1 := nS_len o1 (by omega)
        have i2 : (nS a2).length = 1 := nS_len o3 (by omega)
        refine ⟨_, rfl, p, _, (0 : Int), V.str (nS a1), rfl, rfl, SqL.of hp2, rfl, _, a1, rfl, intS o1 (by omega), by rw [i1]; decide, ?_⟩
        refine ⟨_, rfl, p, _, (2 : Int), V.str (nS a2), rfl, rfl, SqL.of hp2, rfl, _, a2, rfl, intS o3 (by omega), by rw [i2]; decide, ?_⟩
        obtain ⟨es', en', D'⟩ := S.kd
        refine ⟨_, rfl, p, _, (1 : Int), V.str (wordS a3), rfl, rfl, SqL.of hp2, rfl, cS K, _, V.int a3, rfl, rfl, ⟨_, _, v3, D'.at_, D'.lit, e3, r3⟩, ?_⟩
        refine ⟨(by show 3 ≤ sizeLine; decide), fun q hq => k _ _ (sH.trans (Same.upd hq)) ⟨q, rfl, upd_same⟩⟩
      · have kn := k _ sH
        by_cases h3 : ws.length = 3
        · obtain ⟨u, v, x, rfl⟩ : ∃ u v x, ws = [u, v, x] := match ws, h3 with
            | [u, v, x], _ => ⟨u, v, x, rfl⟩
          refine ⟨_, rfl, p, _, rfl, .inl (SqL.of hp2), rfl, _, rfl, iteF ?_⟩
          refine ⟨_, rfl, p, _, (0 : Int), V.str u, rfl, rfl, SqL.of hp2, rfl, _, rfl, F, _, rfl, .inl (SqL.of hF2), rfl, fl _, _, rfl, ?_⟩
          rw [inV_strs]
          by_cases hu : u ∈ figs n
          case neg =>
            rw [decide_eq_false hu]
            exact iteT (iteT kn)
          rw [decide_eq_true hu]
          refine iteF ?_
          have hsg : (∃ u', PySem.W.nsIn K (cS K) v = some (some u')) ∧ (∃ s : Int, (s = 1 ∨ s = -1) ∧ v = wordS s) ∨ PySem.W.nsIn K (cS K) v = some none := by
            by_cases e1 : v = "helps"
            · subst e1
              obtain ⟨u', q, _⟩ := S.yes
              exact .inl ⟨⟨u', q⟩, 1, .inl rfl, rfl⟩
            · by_cases e2 : v = "hinders"
              · subst e2
                obtain ⟨u', q, _⟩ := S.no
                exact .inl ⟨⟨u', q⟩, -1, .inr rfl, rfl⟩
              · exact .inr (S.miss _ e1 e2)
          rcases hsg with ⟨⟨u', e3⟩, s, hs, hv⟩ | e3
          case inr => exact ⟨_, rfl, p, _, (1 : Int), V.str v, rfl, rfl, SqL.of hp2, rfl, _, _, rfl, rfl, e3, true, rfl, iteT (iteT kn)⟩
          refine ⟨_, rfl, p, _, (1 : Int), V.str v, rfl, rfl, SqL.of hp2, rfl, _, _, rfl, rfl, e3, false, rfl, iteF ?_⟩
          refine ⟨_, rfl, p, _, (2 : Int), V.str x, rfl, rfl, SqL.of hp2, rfl, _, rfl, F, _, rfl, .inl (SqL.of hF2), rfl, fl _, _, rfl, ?_⟩
          rw [inV_strs]
          by_cases hx : x ∈ figs n
          · obtain ⟨i, i0, i1, rfl⟩ := mem_figs.mp hu
            obtain ⟨j, j0, j1, rfl⟩ := mem_figs.mp hx
            exact absurd (by rw [hv]; rfl) (hno (i, j, s) ⟨i0, i1, j0, j1, hs⟩)
          · rw [decide_eq_false hx]
            exact iteT kn
        · refine ⟨_, rfl, p, _, rfl, .inl (SqL.of hp2), rfl, true, ?_, iteT (iteT kn)⟩
          rw [List.length_map]
          have e : decide (V.int (ws.length : Int) = V.int 3) = false := by
            refine decide_eq_false fun z => h3 ?_
            have := V.int.inj z
            omega
          rw [e]
          rfl
end
end K3
set_option maxHeartbeats 4000000
namespace K3
open PySem L2 PySem.EX PyProof.Rows
open TL (tl)
/-! ### the plain law of the texts -/
theorem nS_tl {i : Int} (h0 : 0 ≤ i) (h1 : i < 10) : tl (nS i) = [48 + i.toNat] := by
  obtain ⟨n, rfl⟩ := Int.eq_ofNat_of_zero_le h0
  unfold nS
  rw [TL.tl_num, TL.numL_lt (by omega)]
  rfl
theorem nS_inj {i j : Int} (h0 : 0 ≤ i) (h1 : i < 10) (j0 : 0 ≤ j) (j1 : j < 10) (h : nS i = nS j) : i = j := by
  have e := congrArg tl h
  rw [nS_tl h0 h1, nS_tl j0 j1] at e
  simp at e
  omega
theorem nS_free {i : Int} (h0 : 0 ≤ i) (h1 : i < 10) {s : Nat} (hs : s < 48) : s ∉ tl (nS i) := by
  rw [nS_tl h0 h1]
  simp
  omega
theorem tl_sp : tl sp = [32] := by decide +kernel
theorem tl_nl : tl nl = [10] := by decide +kernel
theorem split_sp {parts : List Str} (hne : parts ≠ []) (hp : ∀ p ∈ parts, 32 ∉ tl p) : Txt.split (Str.join sp parts) sp = parts := by
  rw [← TL.join_eq]
  exact TL.split_join tl_sp (by decide +kernel) hne hp
theorem split_nl {parts : List Str} (hne : parts ≠ []) (hp : ∀ p ∈ parts, 10 ∉ tl p) : Txt.split (Txt.join nl parts) nl = parts := TL.split_join tl_nl (by decide +kernel) hne hp
theorem wordS_free (s : Int) : 32 ∉ tl (wordS s) ∧ 10 ∉ tl (wordS s) := by
  unfold wordS
  split <;> decide +kernel
theorem signS_eq (s : Int) : signS s = sp ++ wordS s ++ sp := by
  unfold signS wordS
  split <;> decide +kernel
theorem line_join {a : Ar} : lineS a = Str.join sp (wordsA a) := by
  unfold lineS wordsA
  rw [signS_eq]
  refine TL.ext_tl ?_
  rw [TL.tl_join]
  simp only [TL.tl_append, List.map_cons, List.map_nil, TL.joinL, List.append_assoc]
theorem okA.b {n : Int} {a : Ar} (h : okA n a) (hn : n ≤ 5) : 0 ≤ a.1 ∧ a.1 < 10 ∧ 0 ≤ a.2.1 ∧ a.2.1 < 10 := by
  obtain ⟨h1, h2, h3, h4, _⟩ := h
  omega
theorem words_free {n : Int} {a : Ar} (h : okA n a) (hn : n ≤ 5) : ∀ p ∈ wordsA a, 32 ∉ tl p ∧ 10 ∉ tl p := by
  obtain ⟨h1, h2, h3, h4⟩ := h.b hn
  intro p hp
  unfold wordsA at hp
  rcases List.mem_cons.mp hp with rfl | hp
  · exact ⟨nS_free h1 h2 (by decide), nS_free h1 h2 (by decide)⟩
  rcases List.mem_cons.mp hp with rfl | hp
  · exact wordS_free _
  rcases List.mem_cons.mp hp with rfl | hp
  · exact ⟨nS_free h3 h4 (by decide), nS_free h3 h4 (by decide)⟩
  · exact absurd hp (List.not_mem_nil)
theorem split_line {n : Int} {a : Ar} (h : okA n a) (hn : n ≤ 5) : Txt.split (lineS a) sp = wordsA a := by
  rw [line_join]
  exact split_sp (by unfold wordsA; simp) fun p hp => (words_free h hn p hp).1
theorem line_free {n : Int} {a : Ar} (h : okA n a) (hn : n ≤ 5) : 10 ∉ tl (lineS a) := by
  unfold lineS
  obtain ⟨h1, h2, h3, h4⟩ := h.b hn
  rw [signS_eq, TL.tl_append, TL.tl_append, TL.tl_append, TL.tl_append]
  simp only [List.mem_append, not_or]
  exact ⟨⟨nS_free h1 h2 (by decide), ⟨by decide +kernel, (wordS_free _).2⟩, by decide +kernel⟩, nS_free h3 h4 (by decide)⟩
theorem head_free {n : Int} (n0 : 1 ≤ n) (n1 : n ≤ 5) : 10 ∉ tl (headS n) := by
  unfold headS
  rw [TL.tl_append]
  simp only [List.mem_append, not_or]
  exact ⟨by decide +kernel, nS_free (by omega) (by omega) (by decide)⟩
theorem lines_free {n : Int} {as : List Ar} (n0 : 1 ≤ n) (n1 : n ≤ 5) (ok : ∀ a ∈ as, okA n a) : ∀ p ∈ linesS n as, 10 ∉ tl p := by
  intro p hp
  unfold linesS at hp
  rcases List.mem_cons.mp hp with rfl | hp
  · exact head_free n0 n1
  · obtain ⟨a, ha, rfl⟩ := List.mem_map.mp hp
    exact line_free (ok a ha) n1
theorem wordsA_inj {n : Int} {a b : Ar} (ha : okA n a) (hb : okA n b) (hn : n ≤ 5) (h : wordsA a = wordsA b) : a = b := by
  obtain ⟨a1, a2, a3⟩ := a
  obtain ⟨b1, b2, b3⟩ := b
  have h1 := ha.b hn
  have h2 := hb.b hn
  obtain ⟨_, _, _, _, ea⟩ := ha
  obtain ⟨_, _, _, _, eb⟩ := hb
  simp only [wordsA, List.cons.injEq, and_true] at h
  simp only at h1 h2 ea eb
  obtain ⟨e1, e2, e3⟩ := h
  have e4 := nS_inj h1.1 h1.2.1 h2.1 h2.2.1 e1
  have e5 := nS_inj h1.2.2.1 h1.2.2.2 h2.2.2.1 h2.2.2.2 e3
  have e6 : a3 = b3 := by
    rcases ea with rfl | rfl <;> rcases eb with rfl | rfl <;> first | rfl | exact absurd e2 (by decide +kernel)
  rw [e4, e5, e6]
/-- the line says no arrow -/
def NoA (n : Int) (l : Str) : Prop := ∀ a, okA n a → Txt.split l sp ≠ wordsA a
theorem head_noA {n : Int} (n0 : 1 ≤ n) (n1 : n ≤ 5) : NoA n (headS n) := by
  intro a ha e
  have j : headS n = Str.join sp [Str.ofString "switches", nS n] := by
    unfold headS
    refine TL.ext_tl ?_
    rw [TL.tl_join]
    simp only [TL.tl_append, List.map_cons, List.map_nil, TL.joinL]
    rw [show tl (Str.ofString "switches ") = tl (Str.ofString "switches") ++ tl sp from by decide +kernel, List.append_assoc]
  rw [j, split_sp (by simp) (fun p hp => ?_)] at e
  · have := congrArg List.length e
    simp [wordsA] at this
  · rcases List.mem_cons.mp hp with rfl | hp
    · decide +kernel
    rcases List.mem_cons.mp hp with rfl | hp
    · exact nS_free (by omega) (by omega) (by decide)
    · exact absurd hp (List.not_mem_nil)
theorem noA_of {n : Int} {l : Str} {parts : List Str} (j : l = Str.join sp parts) (hne : parts ≠ []) (hp : ∀ p ∈ parts, 32 ∉ tl p) (h : ∀ a, okA n a → parts ≠ wordsA a) : NoA n l := by
  intro a ha
  rw [j, split_sp hne hp]
  exact h a ha
/-- the odd lines -/
def odds (n : Int) (l : Str) : List Str := ["x", "", Str.ofString " " ++ l, l ++ Str.ofString " ", "0 help 0", nS n ++ Str.ofString " helps 0", "0 helps", "0 hinders 00", "switches"]
/-- short, and of one line -/
def Fine (l : Str) : Prop := 10 ∉ tl l ∧ l.length ≤ 20 ∧ (Txt.split l sp).length ≤ 1000
theorem fine_of {l : Str} {parts : List Str} (j : l = Str.join sp parts) (hne : parts ≠ []) (hp : ∀ p ∈ parts, 32 ∉ tl p) (h1 : 10 ∉ tl l) (h2 : l.length ≤ 20) (h3 : parts.length ≤ 1000) : Fine l := by
  refine ⟨h1, h2, ?_⟩
  rw [j, split_sp hne hp]
  exact h3
theorem line_fine {n : Int} {a : Ar} (h : okA n a) (hn : n ≤ 5) : Fine (lineS a) := ⟨line_free h hn, Nat.le_trans (lineS_len h hn) (by decide), by rw [split_line h hn]; show 3 ≤ 1000; decide⟩
theorem len_ne {parts : List Str} {a : Ar} (h : parts.length ≠ 3) : parts ≠ wordsA a := fun e => h (by rw [e]; rfl)
theorem both_of {n : Int} {l : Str} (parts : List Str) (j : l = Str.join sp parts) (hne : parts ≠ []) (hp : ∀ p ∈ parts, 32 ∉ tl p) (h1 : 10 ∉ tl l) (h2 : l.length ≤ 20) (h3 : parts.length ≤ 1000) (h : ∀ a, okA n a → parts ≠ wordsA a) : NoA n l ∧ Fine l :=
  ⟨noA_of j hne hp h, fine_of j hne hp h1 h2 h3⟩
theorem odd_line {n : Int} {a : Ar} (n0 : 1 ≤ n) (n1 : n ≤ 5) (ok : okA n a) : ∀ o ∈ odds n (lineS a), NoA n o ∧ Fine o := by
  intro o ho
  have wf := words_free ok n1
  have hl := lineS_len ok n1
  have hf := line_free ok n1
  have hq : ∀ p ∈ [Str.ofString "", nS a.1, wordS a.2.2, nS a.2.1], 32 ∉ tl p := fun p hp => by
    rcases List.mem_cons.mp hp with rfl | hp
    · decide +kernel
    · exact (wf p hp).1
  have hq2 : ∀ p ∈ [nS a.1, wordS a.2.2, nS a.2.1, Str.ofString ""], 32 ∉ tl p := fun p hp => by
    have : p ∈ [nS a.1, wordS a.2.2, nS a.2.1] ++ [Str.ofString ""] := hp
    rcases List.mem_append.mp this with hp | hp
    · exact (wf p hp).1
    · rw [List.mem_singleton.mp hp]
      decide +kernel
  simp only [odds, List.mem_cons, List.not_mem_nil, or_false] at ho
  rcases ho with rfl | rfl | rfl | rfl | rfl | rfl | rfl | rfl | rfl
  · exact both_of ["x"] (by decide +kernel) (by simp) (by decide +kernel) (by decide +kernel) (by decide +kernel) (by decide) fun a _ => len_ne (by decide)
  · exact both_of [""] (by decide +kernel) (by simp) (by decide +kernel) (by decide +kernel) (by decide +kernel) (by decide) fun a _ => len_ne (by decide)
  · refine both_of [Str.ofString "", nS a.1, wordS a.2.2, nS a.2.1] ?_ (by simp) hq ?_ ?_ (by show 4 ≤ 1000; decide) fun a _ => len_ne (by show 4 ≠ 3; decide)
    · rw [line_join]
      refine TL.ext_tl ?_
      rw [TL.tl_join, TL.tl_append, TL.tl_join]
      simp only [wordsA, List.map_cons, List.map_nil, TL.joinL]
      rw [show tl (Str.ofString "") = [] from by decide +kernel, List.nil_append]
    · rw [TL.tl_append, List.mem_append, not_or]
      exact ⟨by decide +kernel, hf⟩
    · rw [app_len, show (Str.ofString " ").length = 1 from by decide +kernel]
      omega
  · refine both_of [nS a.1, wordS a.2.2, nS a.2.1, Str.ofString ""] ?_ (by simp) hq2 ?_ ?_ (by show 4 ≤ 1000; decide) fun a _ => len_ne (by show 4 ≠ 3; decide)
    · rw [line_join]
      refine TL.ext_tl ?_
      rw [TL.tl_join, TL.tl_append, TL.tl_join]
      simp only [wordsA, List.map_cons, List.map_nil, TL.joinL, List.append_assoc]
      rw [show tl (Str.ofString "") = [] from by decide +kernel, List.append_nil]
    · rw [TL.tl_append, List.mem_append, not_or]
      exact ⟨hf, by decide +kernel⟩
    · rw [app_len, show (Str.ofString " ").length = 1 from by decide +kernel]
      omega
  · refine both_of ["0", "help", "0"] (by decide +kernel) (by simp) (by decide +kernel) (by decide +kernel) (by decide +kernel) (by decide) fun b _ e => ?_
    have e2 : Str.ofString "help" = wordS b.2.2 := by
      have := congrArg (fun z : List Str => z[1]?) e
      exact Option.some.inj this
    unfold wordS at e2
    split at e2 <;> exact absurd e2 (by decide +kernel)
  · have hn : nS n ++ Str.ofString " helps 0" = Str.join sp [nS n, Str.ofString "helps", Str.ofString "0"] := by
      refine TL.ext_tl ?_
      rw [TL.tl_join, TL.tl_append]
      simp only [List.map_cons, List.map_nil, TL.joinL]
      rw [show tl (Str.ofString " helps 0") = tl sp ++ (tl (Str.ofString "helps") ++ (tl sp ++ tl (Str.ofString "0"))) from by decide +kernel]
    refine both_of _ hn (by simp) ?_ ?_ ?_ (by show 3 ≤ 1000; decide) fun b hb e => ?_
    · intro p hp
      rcases List.mem_cons.mp hp with rfl | hp
      · exact nS_free (by omega) (by omega) (by decide)
      · exact (show ∀ p ∈ [Str.ofString "helps", Str.ofString "0"], 32 ∉ tl p by decide +kernel) p hp
    · rw [TL.tl_append, List.mem_append, not_or]
      exact ⟨nS_free (by omega) (by omega) (by decide), by decide +kernel⟩
    · rw [app_len, nS_len (by omega) (by omega)]
      decide +kernel
    · have e2 : nS n = nS b.1 := by
        have := congrArg (fun z : List Str => z[0]?) e
        exact Option.some.inj this
      have := nS_inj (by omega) (by omega) (hb.b n1).1 (hb.b n1).2.1 e2
      have := hb.2.1
      omega
  · exact both_of ["0", "helps"] (by decide +kernel) (by simp) (by decide +kernel) (by decide +kernel) (by decide +kernel) (by decide) fun a _ => len_ne (by decide)
  · refine both_of ["0", "hinders", "00"] (by decide +kernel) (by simp) (by decide +kernel) (by decide +kernel) (by decide +kernel) (by decide) fun b hb e => ?_
    have e2 : Str.ofString "00" = nS b.2.1 := by
      have := congrArg (fun z : List Str => z[2]?) e
      exact Option.some.inj this
    have e3 := congrArg (fun z : Str => z.length) e2
    have e4 : (nS b.2.1).length = 1 := nS_len (hb.b n1).2.2.1 (hb.b n1).2.2.2
    have e5 : (Str.ofString "00").length = 2 := by decide +kernel
    have e6 : (Str.ofString "00").length = (nS b.2.1).length := e3
    omega
  · exact both_of ["switches"] (by decide +kernel) (by simp) (by decide +kernel) (by decide +kernel) (by decide +kernel) (by decide) fun a _ => len_ne (by decide)
theorem odd_head {n : Int} (n0 : 1 ≤ n) (n1 : n ≤ 5) : ∀ o ∈ odds n (headS n), o.length ≠ 10 ∧ 10 ∉ tl o ∧ o.length ≤ 20 := by
  intro o ho
  have hl := headS_len n0 n1
  have hf := head_free n0 n1
  simp only [odds, List.mem_cons, List.not_mem_nil, or_false] at ho
  rcases ho with rfl | rfl | rfl | rfl | rfl | rfl | rfl | rfl | rfl
  · decide +kernel
  · decide +kernel
  · rw [app_len, hl, show (Str.ofString " ").length = 1 from by decide +kernel, TL.tl_append, List.mem_append, not_or]
    exact ⟨by decide, ⟨by decide +kernel, hf⟩, by decide⟩
  · rw [app_len, hl, show (Str.ofString " ").length = 1 from by decide +kernel, TL.tl_append, List.mem_append, not_or]
    exact ⟨by decide, ⟨hf, by decide +kernel⟩, by decide⟩
  · decide +kernel
  · rw [app_len, nS_len (by omega) (by omega), show (Str.ofString " helps 0").length = 8 from by decide +kernel, TL.tl_append, List.mem_append, not_or]
    exact ⟨by decide, ⟨nS_free (by omega) (by omega) (by decide), by decide +kernel⟩, by decide⟩
  · decide +kernel
  · decide +kernel
  · decide +kernel
theorem join_len (y : Str) : ∀ ls : List Str, (Str.join y ls).length ≤ (ls.map (·.length)).sum + ls.length * y.length
  | [] => by show (Str.ofString "").length ≤ _; rw [show (Str.ofString "").length = 0 from by decide +kernel]; exact Nat.zero_le _
  | [p] => by
    show p.length ≤ _
    simp
  | p :: q :: r => by
    show ((p ++ y) ++ Str.join y (q :: r)).length ≤ _
    have h := join_len y (q :: r)
    rw [app_len, app_len]
    simp only [List.map_cons, List.sum_cons, List.length_cons, Nat.add_mul, Nat.one_mul] at h ⊢
    omega
/-- lines that are joined by new lines: short enough -/
theorem lines_small {ls : List Str} (h : ∀ l ∈ ls, l.length ≤ 20) (hl : ls.length ≤ 1000) : (ls.map (·.length)).sum + ls.length * nl.length ≤ 16777216 ∧ (Txt.join nl ls).length + 2 ≤ sizeLine := by
  have h1 := sum_le (f := fun x : Str => x.length) h
  have e : nl.length = 1 := by decide +kernel
  have h2 := join_len nl ls
  rw [TL.join_eq]
  rw [sizeLine_eq]
  rw [e] at h2 ⊢
  omega
end K3
set_option maxHeartbeats 4000000
namespace K3
open PySem L2 PySem.EX PyProof.Rows
section
variable {P : Program} {w : World} {K : PySem.W.Frag} {mg : Str → Option Value} {base : Heap}
/-- the line b stops the reading behind the arrows pre -/
def Stops (n : Int) (pre : List Ar) (b : Str) : Prop := NoA n b ∨ ∃ a la, okA n a ∧ b = lineS a ∧ pre.getLast? = some la ∧ ¬ lt3 la a
def spRead (K : PySem.W.Frag) : Sp := fun vs H Q E => ∃ v, vs = [v] ∧ ((∃ ty, TyX K H v ty ∧ PySem.W.kitOne K ty (.type "str") = some false ∧ XOut (He.ga K "BadText") .index .non H E) ∨
  ∃ t : Str, v = .str t ∧ t.length + 2 ≤ sizeLine ∧ ((∃ l0 r, Txt.split t nl = l0 :: r ∧ (∀ m : Int, 1 ≤ m → m ≤ 5 → l0 ≠ headS m) ∧ XOut (He.ga K "BadText") .index (.int 0) H E) ∨
    ∃ (n : Int) (pre : List Ar) (rest : List Str), 1 ≤ n ∧ n ≤ 5 ∧ Txt.split t nl = headS n :: (pre.map lineS ++ rest) ∧ (pre.length + rest.length) < 1000 ∧ (∀ a ∈ pre, okA n a) ∧ Asc pre ∧ (∀ l ∈ rest, Fine l) ∧
      ((rest = [] ∧ ∀ x H', Same H H' → PlanAt K H' x n pre → Q (.ref x) H') ∨ ∃ b post, rest = b :: post ∧ Stops n pre b ∧ XOut (He.ga K "BadText") .index (.int (1 + pre.length)) H E)))
theorem scRead : FnScope ["text", "lines", "switches", "arrows", "index", "arrow"] ["text"] (defScope (top 26)) := ⟨rfl, rfl, rfl, by decide +kernel, rfl, by decide +kernel, by decide +kernel⟩
theorem lex_le (a b : Ar) : Ob.lexAt (fun j => decide ((arL a).getD j 0 = (arL b).getD j 0)) (fun j => decide ((arL a).getD j 0 ≤ (arL b).getD j 0)) (decide ((arL a).length ≤ (arL b).length)) 0 (min (arL a).length (arL b).length) = !decide (lt3 b a) := by
  obtain ⟨a1, a2, a3⟩ := a
  obtain ⟨b1, b2, b3⟩ := b
  show Ob.lexAt _ _ (decide (3 ≤ 3)) 0 3 = _
  rw [Ob.lexAt_succ, Ob.lexAt_succ, Ob.lexAt_succ, Ob.lexAt_zero]
  show (if decide (a1 = b1) = true then if decide (a2 = b2) = true then if decide (a3 = b3) = true then decide (3 ≤ 3) else decide (a3 ≤ b3) else decide (a2 ≤ b2) else decide (a1 ≤ b1)) = _
  unfold lt3
  by_cases h1 : a1 = b1
  · by_cases h2 : a2 = b2
    · by_cases h3 : a3 = b3
      · simp [h1, h2, h3]
      · simp [h1, h2, h3]
        by_cases h : a3 ≤ b3
        · have : ¬ b3 < a3 := by omega
          simp [h]
        · have : b3 < a3 := by omega
          simp [this]
    · simp [h1, h2]
      have hn : ¬ b2 = a2 := fun e => h2 e.symm
      by_cases h : a2 ≤ b2
      · have : ¬ b2 < a2 := by omega
        simp [h, hn]
      · have : b2 < a2 := by omega
        simp [this]
  · have hn : ¬ b1 = a1 := fun e => h1 e.symm
    simp [h1, hn]
    by_cases h : a1 ≤ b1
    · have : ¬ b1 < a1 := by omega
      simp [h]
    · have : b1 < a1 := by omega
      simp [this]
theorem atI_last {α : Type} {xs : List α} {v : α} (h : xs.getLast? = some v) : atI xs (-1) = some v := by
  have hne : 0 < xs.length := by
    cases xs with
    | nil => cases h
    | cons a l => simp
  unfold atI ixN
  rw [List.getLast?_eq_getElem?] at h
  have e : ((-1 : Int) + xs.length).toNat = xs.length - 1 := by omega
  have h0 : ¬ (0 : Int) ≤ -1 := by decide
  rw [if_neg h0]
  first
    | (rw [if_pos (by omega)]; simpa [e] using h)
    | (simp [e]; omega)
theorem asc_nodup {as : List Ar} (h : Asc as) : as.Nodup := by
  refine List.Pairwise.imp (R := lt3) ?_ h
  intro a b hab e
  subst e
  exact lt3_irr _ hab
theorem ok_readX (T : TxP P K mg) (C : TxC K mg) (S : TxS K w mg) : FncX P w K mg base (L2.CX P w) 7 "read_plan" (top 26) ["text"] (spRead K) := by
  have GL : Fnc P w K mg base (L2.CX P w) 1 "lines_of" ["text"] (spLines K) := ok_lines T
  have GS : Fnc P w K mg base CX0 1 "switches_in" ["line"] spSw := ok_sw T
  have GA : Fnc P w K mg base CX0 1 "plan_arrow_in" ["line", "switches"] spAin := ok_ain T S
  obtain ⟨fd, F, hb⟩ := ok_init (P := P) (w := w) (base := base) T C
  obtain ⟨gB, D, fI, cc, cda, XB⟩ := T.badText
  refine fncX S.read scRead (fun vs H Q E h => ?_) (fun _ _ _ _ _ _ us hl => match us, hl with | [_], _ => rfl) (fun cdv A outer s H vs Q E hr h => ?_)
  · obtain ⟨v, rfl, _⟩ := h
    rfl
  · obtain ⟨v, rfl, h⟩ := h
    refine ⟨_, pss_cons (ps_set (i := 1) scRead.nd rfl (Or.inl rfl) (pe_fn GL (hr.mono (by decide)) (passes_call (takes_of rfl rfl rfl rfl) (fun _ _ _ _ h => h)) (pa_cons (pv 0) pa_nil)))
      (pss_cons (ps_set (i := 2) scRead.nd rfl (Or.inl rfl) (pe_fn GS (hr.mono (by decide)) pass0 (pa_cons (pe_ix ix_list (pv 1) pe_int (fun _ _ => rfl)) pa_nil)))
      (pss_cons (ps_if (pt_cmpR op_isN (pv 2) pe_non (nomark _)) (pss_one (ps_raiseP rfl XB gB hr (takes_of rfl rfl rfl rfl) (pa_cons pe_int pa_nil))) pss_nil)
      (pss_cons (ps_set (i := 3) scRead.nd rfl (Or.inl rfl) (pe_lst pa_nil))
      (pss_cons (ps_for (passes_of rfl) rfl (pi_range2 (by rfl) T.range (pa_cons pe_int (pa_cons (pe_callB call_len_seq (by rfl) T.len PySem.boot_len (pa_cons (pv 1) pa_nil)) pa_nil))) (pg_name (i := 4) scRead.nd rfl (Or.inl rfl))
        (pss_cons (ps_set (i := 5) scRead.nd rfl (Or.inl rfl) (pe_fn GA (hr.mono (by decide)) pass0 (pa_cons (pe_ix ix_list (pv 1) (pv 4) (fun _ _ => rfl)) (pa_cons (pv 2) pa_nil))))
        (pss_cons (ps_if (PW.pt (pw_or (pt_cmpR op_isN (pv 5) pe_non (nomark _)) (pw_or1 (PW.pt (pw_and (pt_cmpR (op_neD hr.units) (pv 3) (pe_lst pa_nil) (nomark _)) (pw_and1 (pt_cmpR (op_leT hr.units0) (pv 5) (pe_ix ix_list (pv 3) (pe_un un_neg pe_int) (fun _ _ => rfl)) (nomark _))))))))
          (pss_one (ps_raiseP rfl XB gB hr (takes_of rfl rfl rfl rfl) (pa_cons (pv 4) pa_nil))) pss_nil)
        (pss_one (ps_expr (pe_bm PySem.F.plainAttrs_list PySem.F.slot_list_append PySem.F.type_list_append mt_append (pv 3) (pa_cons (pv 5) pa_nil)))))))
      (pss_one (ps_ret (pe_make (E := E0) C.mkr F hr (by rfl) C.glo hb .nil pass0 (pa_cons (pv 2) (pa_cons (pv 3) pa_nil))))))))), ?_⟩
    rcases h with ⟨ty, h1, h2, h3⟩ | ⟨t, rfl, hz, h⟩
    · exact ⟨_, rfl, v, rfl, .inr ⟨ty, h1, h2, h3⟩⟩
    refine ⟨_, rfl, .str t, rfl, .inl ⟨t, rfl, hz, fun p hp => ?_⟩⟩
    have sp1 : Same H (upd H p (.lst ((Txt.split t nl).map V.str))) := Same.upd hp
    have h : (∃ l0 r, Txt.split t nl = l0 :: r ∧ (∀ m : Int, 1 ≤ m → m ≤ 5 → l0 ≠ headS m) ∧ XOut (He.ga K "BadText") .index (.int 0) H E) ∨ _ := h
    rcases h with ⟨l0, r, e, hno, hx⟩ | ⟨n, pre, rest, n0, n1, e, hlen, ok, asc, hfine, h⟩
    · rw [e] at sp1 ⊢
      refine ⟨_, rfl, p, _, (0 : Int), V.str l0, rfl, rfl, SqL.of upd_same, atI_int (by decide) rfl, l0, rfl, .inr ⟨hno, ?_⟩⟩
      refine ⟨_, rfl, rfl, _, rfl, iteT ?_⟩
      exact ⟨_, rfl, fun d hd => hx.go sp1 hd⟩
    rw [e] at sp1 ⊢
    have hN : ((((headS n :: (pre.map lineS ++ rest)).map V.str).length : Int) - 1).toNat = pre.length + rest.length := by
      rw [List.length_map, List.length_cons, List.length_append, List.length_map]
      omega
    refine ⟨_, rfl, p, _, (0 : Int), V.str (headS n), rfl, rfl, SqL.of upd_same, atI_int (by decide) rfl, headS n, rfl, .inl ⟨n, n0, n1, rfl, ?_⟩⟩
    refine ⟨_, rfl, rfl, _, rfl, iteF ?_⟩
    refine ⟨by decide, fun q hq => ?_⟩
    have hq0 : H q = none := sp1.free hq
    have sq : Same (upd H p (.lst ((headS n :: (pre.map lineS ++ rest)).map V.str))) (upd (upd H p (.lst ((headS n :: (pre.map lineS ++ rest)).map V.str))) q (.lst [])) := Same.upd hq
    refine ⟨_, rfl, p, _, rfl, .inl (SqL.of (sq _ _ upd_same)), 1, _, rfl, ⟨by decide, by decide, by omega, ?_⟩, for_range (lo := 1) (n := _) (fun i σ H2 => i ≤ pre.length ∧ ∃ u u' xs, σ = [some (.str t), some (.ref p), some (.int n), some (.ref q), u, u'] ∧ Same (upd H p (.lst ((headS n :: (pre.map lineS ++ rest)).map V.str))) H2 ∧ H2 q = some (.lst xs) ∧ Ars H2 xs (pre.take i)) ⟨Nat.zero_le _, none, none, [], rfl, sq, upd_same, .nil⟩ ?_ ?_⟩
    · rw [List.length_map, List.length_cons, List.length_append, List.length_map]
      omega
    · rintro i σ H2 hi ⟨hle, u, u', xs, rfl, s2, hxq, hA⟩
      rw [hN] at hi
      have hp2 := s2 _ _ upd_same
      have sH := sp1.trans s2
      have hAl : xs.length = i := by rw [hA.length, List.length_take]; omega
      have hS2 : SqL K H2 p ((headS n :: (pre.map lineS ++ rest)).map V.str) := SqL.of hp2
      -- the line
      obtain ⟨ln, hln⟩ : ∃ ln, (pre.map lineS ++ rest)[i]? = some ln := ⟨_, List.getElem?_eq_getElem (by rw [List.length_append, List.length_map]; exact hi)⟩
      have hat : atI ((headS n :: (pre.map lineS ++ rest)).map V.str) (1 + i) = some (.str ln) := by
        refine atI_int (by omega) ?_
        rw [List.getElem?_map, show ((1 : Int) + i).toNat = i + 1 by omega, List.getElem?_cons_succ, hln]
        rfl
      -- the tests behind an arrow: goN where they let it pass
      refine ⟨_, rfl, _, rfl, p, _, 1 + i, .str ln, rfl, rfl, hS2, hat, _, rfl, ?_⟩
      have tests : ∀ (v : V) (H3 : Hp) (a : Ar), Same H2 H3 → ArV H3 v a → ∀ (Yes No : Hp → Prop), (∀ H4, Same H3 H4 → (∃ la, (pre.take i).getLast? = some la ∧ ¬ lt3 la a) → Yes H4) → (∀ H4, Same H3 H4 → (∀ la, (pre.take i).getLast? = some la → lt3 la a) → No H4) →
          tOr (tTest (tOp (fun x y H Q => y = V.non ∧ Q (V.bl (decide (x = V.non))) H) (tVar 5) (tC V.non))) (tAnd (tTest (tOp (rNeD K) (tVar 3) (tLst tNil))) (tTest (tOp (rLeT K) (tVar 5) (tOp (rIxL K) (tVar 3) (tUn (rU fun i => V.int (-i)) (tC (V.int 1)))))))
            [some (.str t), some (.ref p), some (.int n), some (.ref q), some (.int (1 + i)), some v] H3 (fun c H4 => if c = true then Yes H4 else No H4) := by
        intro v H3 a s3 ⟨pa, ev, hv⟩ Yes No hy hn
        subst ev
        refine ⟨_, rfl, rfl, _, rfl, iteF ?_⟩
        have hxq3 := s3 _ _ hxq
        have hA3 := hA.keep s3.tups
        refine ⟨_, rfl, by decide, fun e he => ⟨_, _, .lst (SqL.of ((Same.upd he) _ _ hxq3)) (hA3.keep (Same.upd he).tups).dp, dp_nil (SqL.of upd_same), shaped_arsL _, shaped_nil, _, rfl, ?_⟩⟩
        rw [eqv_nilL]
        have s4 : Same H3 (upd H3 e (.lst [])) := Same.upd he
        cases hl : (pre.take i).getLast? with
        | none =>
          have hnil : pre.take i = [] := List.getLast?_eq_none_iff.mp hl
          rw [hnil]
          refine iteF ?_
          exact iteF (hn _ s4 fun la hla => by rw [hl] at hla; cases hla)
        | some la =>
          have hne : pre.take i ≠ [] := fun z => by rw [z] at hl; cases hl
          have he2 : ((pre.take i).map arD).isEmpty = false := by
            cases z : pre.take i with
            | nil => exact absurd z hne
            | cons _ _ => rfl
          rw [he2]
          refine iteT ?_
          obtain ⟨lv, hlv⟩ : ∃ lv, xs.getLast? = some lv := by
            cases z : xs.getLast? with
            | some lv => exact ⟨lv, rfl⟩
            | none =>
              have z2 := List.getLast?_eq_none_iff.mp z
              have := hA3.length
              rw [z2] at this
              exact absurd (List.length_eq_zero_iff.mp this.symm) hne
          obtain ⟨la', hla', pb, eb, hb⟩ := Ars.get hA3 (by rw [← List.getLast?_eq_getElem?]; exact hlv)
          have ela : la' = la := by
            have h1 : (pre.take i)[(pre.take i).length - 1]? = some la := by rw [← List.getLast?_eq_getElem?]; exact hl
            rw [← hA3.length] at h1
            rw [h1] at hla'
            exact (Option.some.inj hla').symm
          subst ela eb
          refine ⟨_, rfl, _, rfl, _, rfl, q, xs, -1, _, rfl, rfl, SqL.of (s4 _ _ hxq3), atI_last hlv, pa, pb, arL a, arL la', rfl, rfl, SqT.of (s4 _ _ hv), SqT.of (s4 _ _ hb), ?_⟩
          rw [lex_le]
          refine ⟨_, rfl, ?_⟩
          by_cases hlt : lt3 la' a
          · rw [decide_eq_true hlt]
            exact iteF (hn _ s4 fun la hla => by rw [hl] at hla; cases hla; exact hlt)
          · rw [decide_eq_false hlt]
            exact iteT (hy _ s4 ⟨la', hl, hlt⟩)
      have fin : ∀ {l : Str}, Fine l → l.length + 2 ≤ sizeLine ∧ (Txt.split l sp).length ≤ 1000 := fun f => ⟨line1000 (by have := f.2.1; omega), f.2.2⟩
      by_cases hip : i < pre.length
      · -- an arrow more
        obtain ⟨a, ha⟩ : ∃ a, pre[i]? = some a := ⟨_, List.getElem?_eq_getElem hip⟩
        have el : ln = lineS a := by
          rw [List.getElem?_append_left (by rw [List.length_map]; exact hip), List.getElem?_map, ha] at hln
          exact (Option.some.inj hln).symm
        have oka := ok a (List.mem_of_getElem? ha)
        subst el
        obtain ⟨f1, f2⟩ := fin (line_fine oka n1)
        refine ⟨lineS a, n, rfl, by omega, n1, f1, f2, .inl ⟨a, oka, split_line oka n1, fun v H3 s3 hv => ?_⟩⟩
        refine tests v H3 a s3 hv _ _ (fun H4 s4 hbad => ?_) (fun H4 s4 _ => ?_)
        · obtain ⟨la, hla, hno⟩ := hbad
          rw [List.getLast?_eq_getElem?, List.length_take, Nat.min_eq_left (by omega)] at hla
          rw [List.getElem?_take] at hla
          split at hla
          · rename_i hi1
            have hasc := List.pairwise_iff_getElem.mp asc (i - 1) i (by omega) hip (by omega)
            rw [List.getElem?_eq_getElem (by omega)] at hla ha
            rw [Option.some.inj hla, Option.some.inj ha] at hasc
            exact absurd hasc hno
          · cases hla
        · have sx := s3.trans s4
          have hxq4 := sx _ _ hxq
          refine ⟨_, rfl, .inl ⟨rfl, _, SqL.of hxq4⟩, _, rfl, q, xs, v, rfl, rfl, hxq4, small1000 (by omega), ?_⟩
          have hqn : ∀ b o, (upd H p (.lst ((headS n :: (pre.map lineS ++ rest)).map V.str))) b = some o → b ≠ q := fun b o hb => ne_of_none hb hq
          refine ⟨hip, _, _, xs ++ [v], rfl, (s2.trans sx).put hq, upd_same, ?_⟩
          have hv4 : ArV (upd H4 q (.lst (xs ++ [v]))) v a := (hv.keep s4.tups).keep fun b ys e => by rw [upd_ne (ne_of e hxq4 (by intro z; cases z))]; exact e
          have hA4 : Ars (upd H4 q (.lst (xs ++ [v]))) xs (pre.take i) := (hA.keep sx.tups).keep fun b ys e => by rw [upd_ne (ne_of e hxq4 (by intro z; cases z))]; exact e
          rw [List.take_succ, ha]
          exact Paired.snoc hA4 hv4
      · -- the line that stops it
        have hip' : i = pre.length := by omega
        rcases h with ⟨hr0, _⟩ | ⟨b, post, hb', hst, hx⟩
        · rw [hr0] at hi
          simp at hi
          omega
        subst hb'
        have el : ln = b := by
          rw [List.getElem?_append_right (by rw [List.length_map]; omega), List.length_map, hip', Nat.sub_self] at hln
          exact (Option.some.inj hln).symm
        subst el
        obtain ⟨f1, f2⟩ := fin (hfine ln List.mem_cons_self)
        have hx' : XOut (He.ga K "BadText") .index (.int (1 + i)) H E := by rw [hip']; exact hx
        rcases hst with hno | ⟨a, la, oka, hla, hgl, hnl⟩
        · refine ⟨ln, n, rfl, by omega, n1, f1, f2, .inr ⟨hno, fun H3 s3 => ?_⟩⟩
          refine ⟨_, rfl, rfl, _, rfl, iteT (iteT ?_)⟩
          exact ⟨_, rfl, _, rfl, fun d hd => hx'.go (sH.trans s3) hd⟩
        · subst hla
          refine ⟨lineS a, n, rfl, by omega, n1, f1, f2, .inl ⟨a, oka, split_line oka n1, fun v H3 s3 hv => ?_⟩⟩
          refine tests v H3 a s3 hv _ _ (fun H4 s4 _ => ?_) (fun H4 s4 hgood => ?_)
          · exact ⟨_, rfl, _, rfl, fun d hd => hx'.go (sH.trans (s3.trans s4)) hd⟩
          · exact absurd (hgood la (by rw [List.take_of_length_le (by omega)]; exact hgl)) hnl
    · rintro σ H2 ⟨hle, u, u', xs, rfl, s2, hxq, hA⟩
      rw [hN] at hle hA
      have hr0 : rest = [] := List.length_eq_zero_iff.mp (by omega)
      subst hr0
      have sH := sp1.trans s2
      rcases h with ⟨_, k⟩ | ⟨b, post, hb', _⟩
      · rw [List.take_of_length_le (by omega)] at hA
        refine ⟨_, rfl, _, rfl, fun x dx hx hdx hne => ?_⟩
        have e1 : Same H2 (upd (upd H2 dx (.own x)) x (.ins (cP K) dx [])) := (Same.upd hdx).trans (Same.upd (by rw [upd_ne (Ne.symm hne)]; exact hx))
        refine ⟨x, dx, n, q, xs, pre, rfl, upd_same, n0, n1, .base (.lst (e1 _ _ hxq)), SqL.of (e1 _ _ hxq), hA.keep e1.tups, ok, asc_nodup asc, by omega, fun H' hk hpl => ⟨rfl, ?_⟩⟩
        rw [sort_idA asc] at hpl
        refine k x H' (fun b o hb => ?_) hpl
        have hb2 := sH _ _ hb
        exact hk b o (ne_of_none hb2 hx) (e1 _ _ hb2)
      · cases hb'
theorem ok_read (T : TxP P K mg) (C : TxC K mg) (S : TxS K w mg) : Fnc P w K mg base (L2.CX P w) 7 "read_plan" ["text"] (spRead K) := (ok_readX T C S).fnc
end
end K3
set_option maxHeartbeats 4000000
namespace K3
open PySem L2 PySem.EX PyProof.Rows
abbrev sPlan : Stmt := top 34
def spPlan : Sp := fun vs H Q _ => ∃ (t l c : Addr) (n : Int), vs = [.ref t, .int n] ∧ 1 ≤ n ∧ n ≤ 5 ∧ Tape H t l c ∧
  ∀ (p : Addr) (ys : List V) (as : List Ar) (H' : Hp), H' p = some (.tup ys) → Ars H' ys as → (∀ a ∈ as, okA n a) → Asc as → as.length ≤ 60 → Tape H' t l c → But t l H H' → Q (.ref p) H'
theorem scPlan : FnScope ["tape", "many", "way", "found", "source", "target", "sign", "order", "extra", "spot"] ["tape", "many"] (defScope sPlan) := ⟨rfl, rfl, rfl, by decide +kernel, rfl, by decide +kernel, by decide +kernel⟩
theorem paired_append {α β : Type} {F : α → β → Prop} : ∀ {l l' : List α} {m m' : List β}, Paired F l m → Paired F l' m' → Paired F (l ++ l') (m ++ m')
  | _, _, _, _, .nil, h => h
  | _, _, _, _, .cons a t, h => .cons a (paired_append t h)
theorem But.put {t l p : Addr} {o : HO} {H H' : Hp} (b : But t l H H') (h : H' p = none) (nt : p ≠ t) (nl : p ≠ l) : But t l H (upd H' p o) := fun q u e h1 h2 => by
  have z := b q u e h1 h2
  rw [upd_ne (ne_of_none z h)]
  exact z
section
variable {P : Program} {w : World} {K : PySem.W.Frag} {mg : Str → Option Value} {base : Heap}
theorem ok_plan (L : TxL K mg) (T : TxP P K mg) (C : TxC K mg) (hS : Def K mg "_law_plan" sPlan) : Fnc P w K mg base CX0 4 "_law_plan" ["tape", "many"] spPlan := by
  have GD : Fnc P w K mg base CX0 2 "_law_draw" ["tape", "size"] spDraw := ok_draw L
  have GP : Fnc P w K mg base CX0 3 "_law_pick" ["tape", "several"] (spPick K) := ok_pick L
  have GS : Fnc P w K mg base CX0 3 "_law_shuffled" ["tape", "several"] (spShuf K) := ok_shuf L
  refine fnc0 hS scPlan (fun vs H Q E h => ?_) (fun _ _ _ _ _ _ us hl => match us, hl with | [_, _], _ => rfl) (fun cdv A outer s H vs Q E hr h => ?_)
  · obtain ⟨t, l, c, n, rfl, _⟩ := h
    rfl
  · obtain ⟨t, l, c, n, rfl, n0, n1, TT, k⟩ := h
    have hu := hu_of hr
    have h2 : Room 2 _ := hr.mono (show 2 ≤ 3 by decide)
    have hu65 : (A.deeper (envOfC (Str.ofString "_law_plan") (defScope sPlan) s.heap.objs.size (He.ga K "_law_plan") cdv)).units + 65 < cLine := by have := hr.un; omega
    have lo : ∀ {x : Str}, (defScope sPlan).names.lookup x = some .local → Loc (defScope sPlan) x := fun h => .inl h
    refine ⟨_, pss_cons (ps_par (by rfl) scPlan.nd (i := 2) (j := 3) rfl rfl (by decide) rfl rfl (pa_cons (pe_fn GD h2 pass0 (pa_cons (pv 0) (pa_cons pe_int pa_nil))) (pa_cons (pe_lst pa_nil) pa_nil)) (by rfl))
      (pss_cons (ps_for PassesOwn.never rfl (pi_range1 (by rfl) T.range (pa_cons (pv 1) pa_nil)) (pg_name (i := 4) scPlan.nd rfl (Or.inl rfl))
        (pss_one (ps_for PassesOwn.never rfl (pi_range1 (by rfl) T.range (pa_cons (pv 1) pa_nil)) (pg_name (i := 5) scPlan.nd rfl (Or.inl rfl))
          (pss_one (ps_for PassesOwn.never rfl (pi_list (pe_lst (pa_cons (pe_un un_neg pe_int) (pa_cons pe_int pa_nil)))) (pg_name (i := 6) scPlan.nd rfl (Or.inl rfl))
            (pss_one (ps_if (PW.pt (pw_or (PW.pt (pw_and (pt_cmpR op_eq (pv 2) pe_int (nomark _)) (pw_and1 (pt_cmpR op_eq (pe_fn GD h2 pass0 (pa_cons (pv 0) (pa_cons pe_int pa_nil))) pe_int (nomark _)))))
                (pw_or (PW.pt (pw_and (pt_cmpR op_eq (pv 2) pe_int (nomark _)) (pw_and1 (pt_cmpR op_eq (pe_fn GD h2 pass0 (pa_cons (pv 0) (pa_cons pe_int pa_nil))) pe_int (nomark _)))))
                (pw_or1 (PW.pt (pw_and (pt_cmpR op_eq (pv 2) pe_int (nomark _)) (pw_and (pt_cmpR op_eq (pv 6) pe_int (nomark _)) (pw_and1 (pt_cmpR op_eq (pe_fn GD h2 pass0 (pa_cons (pv 0) (pa_cons pe_int pa_nil))) pe_int (nomark _))))))))))
              (pss_one (ps_expr (pe_bm PySem.F.plainAttrs_list PySem.F.slot_list_append PySem.F.type_list_append mt_append (pv 3) (pa_cons (pe_tup (pa_cons (pv 4) (pa_cons (pv 5) (pa_cons (pv 6) pa_nil)))) pa_nil)))) pss_nil)))))))
      (pss_cons (ps_if (pt_cmpR op_eq (pv 2) pe_int (nomark _))
        (pss_cons (ps_set (i := 7) scPlan.nd rfl (Or.inr rfl) (pe_fn GS hr pass0 (pa_cons (pv 0) (pa_cons (pe_listRg rfl (by rfl) T.list (prg_1 (by rfl) T.range (pv 1))) pa_nil))))
        (pss_cons (ps_setLc (i := 3) (own := [("spot", 9)]) (g := gName 9) rfl scPlan.nd rfl rfl (sw_true rfl rfl rfl (by decide +kernel)) (pi_range1 (by rfl) T.range (pa_cons (pv 1) pa_nil)) (blkOk_by (N := ["tape", "many", "way", "found", "source", "target", "sign", "order", "extra", "spot"]) (sc := defScope sPlan) (by decide +kernel))
          (fun _ _ _ _ _ => pg_name (i := 9) scPlan.nd rfl (Or.inl rfl)) (fun _ _ _ _ _ => pts_nil)
          (fun _ _ _ _ _ => pe_tup (pa_cons (pe_ix (r := rIxL K) ix_list (pv 7) (pv 9) (fun _ _ => rfl)) (pa_cons (pe_ix (r := rIxL K) ix_list (pv 7) (pe_op op_sub (pv 9) pe_int) (fun _ _ => rfl)) (pa_cons (pe_fn GP hr pass0 (pa_cons (pv 0) (pa_cons (pe_lst (pa_cons pe_int (pa_cons (pe_un un_neg pe_int) pa_nil))) pa_nil))) pa_nil)))))
        (pss_cons (ps_set (i := 8) scPlan.nd rfl (Or.inl rfl) (pe_tup (pa_cons (pe_fn GD h2 pass0 (pa_cons (pv 0) (pa_cons (pv 1) pa_nil))) (pa_cons (pe_fn GD h2 pass0 (pa_cons (pv 0) (pa_cons (pv 1) pa_nil)))
          (pa_cons (pe_fn GP hr pass0 (pa_cons (pv 0) (pa_cons (pe_lst (pa_cons pe_int (pa_cons (pe_un un_neg pe_int) pa_nil))) pa_nil))) pa_nil)))))
        (pss_one (ps_set (i := 3) scPlan.nd rfl (Or.inl rfl) (pe_op op_cat (pv 3) (pe_ifExp (pt_cmpR (op_notInD hu65) (pv 8) (pv 3) (by with_unfolding_all rfl)) (pe_lst (pa_cons (pv 8) pa_nil)) (pe_lst pa_nil))))))))
        pss_nil)
      (pss_one (ps_ret (pe_callTy call_tuple_of (by rfl) T.tuple (by decide +kernel) (pa_cons (pe_callB (cr_sortA hr.units) (by rfl) C.sorted (by decide +kernel) (pa_cons (pv 3) pa_nil)) pa_nil)))))), ?_⟩
    refine ⟨_, rfl, t, l, c, 4, rfl, by decide, by decide, TT, fun way H1 w0 w1 T1 b1 => ⟨by decide, fun F hF => ⟨_, _, rfl, ?_⟩⟩⟩
    have notT : ∀ {H2 : Hp} {p : Addr}, Tape H2 t l c → H2 p = none → p ≠ t ∧ p ≠ l := fun {H2 p} T2 hp => by
      obtain ⟨r, m, lg, cs, e1, e2, _⟩ := T2.ex
      exact ⟨fun e => (by rw [e, e1] at hp; cases hp), fun e => (by rw [e, e2] at hp; cases hp)⟩
    have nF := notT T1 hF
    have hF0 : H F = none := b1.free nF.1 nF.2 hF
    -- what the loops keep
    let G : Hp → List Ar → Prop := fun H2 as => Tape H2 t l c ∧ But t l H H2 ∧ (∃ xs, H2 F = some (.lst xs) ∧ Ars H2 xs as) ∧ (∀ a ∈ as, okA n a) ∧ Asc as
    have keep : ∀ {H2 H3 : Hp} {as : List Ar}, G H2 as → Tape H3 t l c → But t l H2 H3 → G H3 as := fun {H2 H3 as} ⟨g1, g2, ⟨xs, g3, g4⟩, g5, g6⟩ T3 b3 =>
      ⟨T3, g2.trans b3, ⟨xs, b3 _ _ g3 nF.1 nF.2, g4.keep (b3.tups g1)⟩, g5, g6⟩
    have G0 : G (upd H1 F (.lst [])) [] := ⟨(Same.upd hF).tape T1, b1.trans (But.of (Same.upd hF)), ⟨[], upd_same, .nil⟩, (fun a h => nomatch h), List.Pairwise.nil⟩
    -- the end
    have fin : ∀ (σ : L2.St) (H2 : Hp) (F2 : Addr) (xs : List V) (as : List Ar), σ[3]? = some (some (.ref F2)) → Tape H2 t l c → But t l H H2 → H2 F2 = some (.lst xs) → Ars H2 xs as → (∀ a ∈ as, okA n a) → as.Nodup → as.length ≤ 60 →
        tRet (tCB (fun xs H Q => ∃ p ys, xs = [.ref p] ∧ ((SqL K H p ys ∧ ∀ l, H l = none → Q (.ref l) (upd H l (.tup ys))) ∨ (SqT K H p ys ∧ Q (.ref p) H))) (tCons (tCB (rSortA K) (tCons (tVar 3) tNil)) tNil)) { nx := fun _ H' => Q .non H', rt := Q } σ H2 := by
      intro σ H2 F2 xs as hσ T2 b2 hx hA ok nd hl
      refine ⟨_, hσ, F2, xs, as, rfl, SqL.of hx, hA, fun p ys hp hys => ⟨p, ys, rfl, .inl ⟨SqL.of upd_same, fun q hq => ?_⟩⟩⟩
      have np := notT T2 hp
      have T3 : Tape (upd H2 p (.lst ys)) t l c := (Same.upd hp).tape T2
      have nq := notT T3 hq
      refine k q ys (as.mergeSort le3) _ upd_same ((hys.keep (Same.upd hp).tups).keep (Same.upd hq).tups) (fun a ha => ok a ((List.mergeSort_perm as le3).mem_iff.mp ha)) (sort_asc nd) (by rw [List.length_mergeSort]; exact hl) ((Same.upd hq).tape T3) ?_
      exact (b2.trans (But.of (Same.upd hp))).trans (But.of (Same.upd hq))
    refine ⟨_, rfl, n, rfl, by omega, by omega, for_range (lo := 0) (n := n.toNat) (fun i σ H2 => ∃ u1 u2 u3 as, σ = [some (.ref t), some (.int n), some (.int way), some (.ref F), u1, u2, u3, none, none, none] ∧ G H2 as ∧ (∀ a ∈ as, lt3 a (0 + i, 0, -1)) ∧ as.length ≤ 10 * i) ⟨none, none, none, [], rfl, G0, fun a h => (nomatch h), Nat.zero_le _⟩ ?_ ?_⟩
    · rintro i σ H2 hi ⟨u1, u2, u3, as, rfl, g, hlt, hlen⟩
      refine ⟨_, rfl, n, rfl, by omega, by omega, for_range (lo := 0) (n := n.toNat) (fun j σ H2 => ∃ u2 u3 as, σ = [some (.ref t), some (.int n), some (.int way), some (.ref F), some (.int (0 + i)), u2, u3, none, none, none] ∧ G H2 as ∧ (∀ a ∈ as, lt3 a (0 + i, 0 + j, -1)) ∧ as.length ≤ 10 * i + 2 * j) ⟨u2, u3, as, rfl, g, hlt, by omega⟩ ?_ ?_⟩
      · rintro j σ H2 hj ⟨u2, u3, as, rfl, g, hlt, hlen⟩
        refine ⟨_, rfl, by decide, fun p hp => ?_⟩
        have np := notT g.1 hp
        have pF : F ≠ p := by
          obtain ⟨xs, g3, _⟩ := g.2.2.1
          exact ne_of_none g3 hp
        refine ⟨p, rfl, ⟨_, SqL.of upd_same⟩, for_list (K := K) (a := p) (xs := [V.int (-1), V.int 1]) (fun k σ H2 => ∃ u3 as, σ = [some (.ref t), some (.int n), some (.int way), some (.ref F), some (.int (0 + i)), some (.int (0 + j)), u3, none, none, none] ∧ G H2 as ∧ (∀ a ∈ as, lt3 a (0 + i, 0 + j, 2 * k - 1)) ∧ as.length ≤ 10 * i + 2 * j + k ∧ H2 p = some (.lst [V.int (-1), V.int 1]))
          ⟨u3, as, rfl, keep g ((Same.upd hp).tape g.1) (But.of (Same.upd hp)), (by intro a ha; have := hlt a ha; unfold lt3 at this ⊢; simpa using this), hlen, upd_same⟩ (fun k σ H2 _ ⟨_, _, _, _, _, _, h⟩ => SqL.of h) ?_ ?_⟩
        · rintro k x σ H3 hx ⟨u3, as, rfl, g, hlt, hlen, hp3⟩
          obtain ⟨hk, rfl⟩ : k < 2 ∧ x = .int (2 * k - 1) := by
            match k, hx with
            | 0, hx => exact ⟨by decide, (Option.some.inj hx).symm⟩
            | 1, hx => exact ⟨by decide, (Option.some.inj hx).symm⟩
            | k + 2, hx => simp at hx
          have dr : ∀ (m : Int), 0 < m → m < 1073741824 → ∀ (R : Bool → Hp → Prop), (∀ cc H4, Tape H4 t l c → But t l H3 H4 → R cc H4) →
              tTest (tOp rEq (tFn spDraw E0 (tCons (tVar 0) (tCons (tC (.int m)) tNil))) (tC (.int 0))) [some (.ref t), some (.int n), some (.int way), some (.ref F), some (.int (0 + i)), some (.int (0 + j)), some (.int (2 * k - 1)), none, none, none] H3 R := by
            intro m m0 m1 R hR
            refine ⟨_, rfl, t, l, c, m, rfl, m0, m1, g.1, fun d H4 d0 d1 T4 b4 => ⟨rfl, _, rfl, hR _ _ T4 b4⟩⟩
          have tst : ∀ (R : Bool → Hp → Prop), (∀ cc H4, Tape H4 t l c → But t l H3 H4 → R cc H4) →
              tOr (tAnd (tTest (tOp rEq (tVar 2) (tC (.int 0)))) (tTest (tOp rEq (tFn spDraw E0 (tCons (tVar 0) (tCons (tC (.int 2)) tNil))) (tC (.int 0)))))
                (tOr (tAnd (tTest (tOp rEq (tVar 2) (tC (.int 1)))) (tTest (tOp rEq (tFn spDraw E0 (tCons (tVar 0) (tCons (tC (.int 5)) tNil))) (tC (.int 0)))))
                  (tAnd (tTest (tOp rEq (tVar 2) (tC (.int 2)))) (tAnd (tTest (tOp rEq (tVar 6) (tC (.int 1)))) (tTest (tOp rEq (tFn spDraw E0 (tCons (tVar 0) (tCons (tC (.int 2)) tNil))) (tC (.int 0)))))))
                [some (.ref t), some (.int n), some (.int way), some (.ref F), some (.int (0 + i)), some (.int (0 + j)), some (.int (2 * k - 1)), none, none, none] H3 R := by
            intro R hR
            have third : ∀ H4, Tape H4 t l c → But t l H3 H4 → tTest (tOp rEq (tVar 2) (tC (.int 2))) [some (.ref t), some (.int n), some (.int way), some (.ref F), some (.int (0 + i)), some (.int (0 + j)), some (.int (2 * k - 1)), none, none, none] H4 (fun cc H5 => if cc = true then
                tAnd (tTest (tOp rEq (tVar 6) (tC (.int 1)))) (tTest (tOp rEq (tFn spDraw E0 (tCons (tVar 0) (tCons (tC (.int 2)) tNil))) (tC (.int 0)))) [some (.ref t), some (.int n), some (.int way), some (.ref F), some (.int (0 + i)), some (.int (0 + j)), some (.int (2 * k - 1)), none, none, none] H5 R else R false H5) := by
              intro H4 T4 b4
              refine ⟨_, rfl, rfl, _, rfl, ite2 (fun _ => ?_) (fun _ => hR _ _ T4 b4)⟩
              refine ⟨_, rfl, rfl, _, rfl, ite2 (fun _ => ?_) (fun _ => hR _ _ T4 b4)⟩
              exact ⟨_, rfl, t, l, c, 2, rfl, by decide, by decide, T4, fun d H5 d0 d1 T5 b5 => ⟨rfl, _, rfl, hR _ _ T5 (b4.trans b5)⟩⟩
            have second : ∀ H4, Tape H4 t l c → But t l H3 H4 → tOr (tAnd (tTest (tOp rEq (tVar 2) (tC (.int 1)))) (tTest (tOp rEq (tFn spDraw E0 (tCons (tVar 0) (tCons (tC (.int 5)) tNil))) (tC (.int 0)))))
                  (tAnd (tTest (tOp rEq (tVar 2) (tC (.int 2)))) (tAnd (tTest (tOp rEq (tVar 6) (tC (.int 1)))) (tTest (tOp rEq (tFn spDraw E0 (tCons (tVar 0) (tCons (tC (.int 2)) tNil))) (tC (.int 0))))))
                  [some (.ref t), some (.int n), some (.int way), some (.ref F), some (.int (0 + i)), some (.int (0 + j)), some (.int (2 * k - 1)), none, none, none] H4 R := by
              intro H4 T4 b4
              refine ⟨_, rfl, rfl, _, rfl, ite2 (fun _ => ?_) (fun _ => iteF (third _ T4 b4))⟩
              refine ⟨_, rfl, t, l, c, 5, rfl, by decide, by decide, T4, fun d H5 d0 d1 T5 b5 => ⟨rfl, _, rfl, ite2 (fun _ => hR _ _ T5 (b4.trans b5)) (fun _ => third _ T5 (b4.trans b5))⟩⟩
            refine ⟨_, rfl, rfl, _, rfl, ite2 (fun _ => ?_) (fun _ => iteF (second _ g.1 .refl))⟩
            exact dr 2 (by decide) (by decide) _ fun cc H4 T4 b4 => ite2 (fun _ => hR _ _ T4 b4) (fun _ => second _ T4 b4)
          refine tst _ fun cc H4 T4 b4 => ?_
          have g4 := keep g T4 b4
          have hp4 : H4 p = some (.lst [V.int (-1), V.int 1]) := b4 _ _ hp3 np.1 np.2
          cases cc with
          | false =>
            refine ⟨_, as, rfl, g4, fun a ha => ?_, by omega, hp4⟩
            have h1 := hlt a ha
            unfold lt3 at h1 ⊢
            simp at h1 ⊢
            omega
          | true =>
            obtain ⟨T4', b4', ⟨xs, hx4, hA4⟩, ok4, asc4⟩ := g4
            refine ⟨_, rfl, .inl ⟨rfl, _, SqL.of hx4⟩, _, rfl, _, rfl, _, rfl, (by show 3 ≤ sizeLine; decide), fun q hq => ?_⟩
            have nq := notT T4 hq
            have qF : F ≠ q := ne_of_none hx4 hq
            have qp : p ≠ q := ne_of_none hp4 hq
            have hx5 : (upd H4 q (.tup [V.int (0 + i), V.int (0 + j), V.int (2 * k - 1)])) F = some (.lst xs) := by rw [upd_ne qF]; exact hx4
            have hxl : xs.length = as.length := hA4.length
            refine ⟨F, xs, _, rfl, rfl, hx5, small1000 (by omega), ?_⟩
            have T5 : Tape (upd H4 q (.tup [V.int (0 + i), V.int (0 + j), V.int (2 * k - 1)])) t l c := (Same.upd hq).tape T4
            have tF : ∀ b ys, (upd H4 q (.tup [V.int (0 + i), V.int (0 + j), V.int (2 * k - 1)])) b = some (.tup ys) → (upd (upd H4 q (.tup [V.int (0 + i), V.int (0 + j), V.int (2 * k - 1)])) F (.lst (xs ++ [.ref q]))) b = some (.tup ys) := fun b ys e => by
              rw [upd_ne (ne_of e hx5 (by intro z; cases z))]; exact e
            obtain ⟨r, m, lg, cs, e1, e2, e3⟩ := T5.ex
            have Fc : c ≠ F := fun z => by
              obtain ⟨r0, m0, lg0, cs0, e01, e02, e03⟩ := TT.ex
              rw [z, hF0] at e03
              cases e03
            refine ⟨_, as ++ [(((0 : Int) + i, (0 : Int) + j, 2 * (k : Int) - 1) : Ar)], rfl, ⟨⟨⟨r, m, lg, cs, ?_, ?_, ?_⟩, T5.lc⟩, fun b o hb h1 h2 => ?_, ⟨xs ++ [.ref q], upd_same, ?_⟩, fun a ha => ?_, ?_⟩, fun a ha => ?_, ?_, ?_⟩
            · rw [upd_ne (Ne.symm nF.1)]; exact e1
            · rw [upd_ne (Ne.symm nF.2)]; exact e2
            · rw [upd_ne Fc]; exact e3
            · rw [upd_ne (ne_of_none hb hF0), upd_ne (ne_of_none (b4' _ _ hb h1 h2) hq)]
              exact b4' _ _ hb h1 h2
            · exact Paired.snoc ((hA4.keep (Same.upd hq).tups).keep tF) ⟨q, rfl, tF _ _ upd_same⟩
            · rcases List.mem_append.mp ha with ha | ha
              · exact ok4 a ha
              · rw [List.mem_singleton.mp ha]
                refine ⟨?_, ?_, ?_, ?_, ?_⟩
                · show (0 : Int) ≤ 0 + i; omega
                · show (0 : Int) + i < n; omega
                · show (0 : Int) ≤ 0 + j; omega
                · show (0 : Int) + j < n; omega
                · show (2 * (k : Int) - 1 = 1 ∨ 2 * (k : Int) - 1 = -1); omega
            · refine List.pairwise_append.mpr ⟨asc4, List.pairwise_singleton _ _, fun a ha b hb => ?_⟩
              rw [List.mem_singleton.mp hb]
              exact hlt a ha
            · rcases List.mem_append.mp ha with ha | ha
              · have h1 := hlt a ha
                unfold lt3 at h1 ⊢
                simp at h1 ⊢
                omega
              · rw [List.mem_singleton.mp ha]
                unfold lt3
                simp
                omega
            · rw [List.length_append, List.length_singleton]
              omega
            · rw [upd_ne (Ne.symm pF), upd_ne qp]
              exact hp4
        · rintro σ H3 ⟨u3, as, rfl, g, hlt, hlen, hp3⟩
          refine ⟨_, _, as, rfl, g, fun a ha => ?_, by simp at hlen; omega⟩
          have h1 := hlt a ha
          have h2 := (g.2.2.2.1 a ha).2.2.2.2
          unfold lt3 at h1 ⊢
          simp at h1 ⊢
          omega
      · rintro σ H2 ⟨u2, u3, as, rfl, g, hlt, hlen⟩
        refine ⟨_, _, _, as, rfl, g, fun a ha => ?_, by omega⟩
        have h1 := hlt a ha
        have h2 := (g.2.2.2.1 a ha)
        obtain ⟨q1, q2, q3, q4, _⟩ := h2
        unfold lt3 at h1 ⊢
        simp at h1 ⊢
        omega
    · rintro σ H2 ⟨u1, u2, u3, as, rfl, ⟨T2, b2, ⟨xs, hx, hA⟩, ok, asc⟩, hlt, hlen⟩
      refine ⟨_, rfl, rfl, _, rfl, ite2 (fun _ => ?_) (fun _ => fin _ H2 F xs as rfl T2 b2 hx hA ok (asc_nodup asc) (by omega))⟩
      -- order
      refine ⟨_, rfl, _, rfl, n, rfl, RgOk.of_le (by decide) (by omega) (by decide) (by omega), fun R hR => ?_⟩
      have nR := notT T2 hR
      have eR : rgV 0 n = ((List.range (n - 0).toNat).map fun i : Nat => (0 : Int) + i).map V.int := by
        unfold rgV
        rw [List.map_map]
        rfl
      refine ⟨t, l, c, R, (List.range (n - 0).toNat).map (fun i : Nat => (0 : Int) + i), rfl, SqL.of (by rw [upd_same, eR]), by rw [List.length_map, List.length_range]; omega, (Same.upd hR).tape T2, fun ys O H5 pm hO hO5 T5 b5 => ?_⟩
      have nO := notT ((Same.upd hR).tape T2) hO
      have hOR := (Same.upd hR).free hO
      have hO0 : H O = none := b2.free nO.1 nO.2 hOR
      have b25 : But t l H H5 := (b2.trans (But.of (Same.upd hR))).trans b5
      have ylen : ys.length = n.toNat := by rw [pm.length_eq, List.length_map, List.length_range]; congr 1; omega
      have ybd : ∀ z ∈ ys, 0 ≤ z ∧ z < n := fun z hz => by
        have := pm.mem_iff.mp hz
        obtain ⟨i, hi, rfl⟩ := List.mem_map.mp this
        rw [List.mem_range] at hi
        omega
      have ynd : ys.Nodup := pm.nodup_iff.mpr (by
        refine List.Pairwise.map _ (R := fun a b : Nat => a ≠ b) (fun a b h e => h ?_) List.nodup_range
        omega)
      have pk : ∀ (σ : L2.St) (H2 : Hp) (Q : VK), σ[0]? = some (some (.ref t)) → Tape H2 t l c → (∀ (sg : Int) (H' : Hp), (sg = 1 ∨ sg = -1) → Tape H' t l c → But t l H2 H' → Q (.int sg) H') →
          tFn (spPick K) E0 (tCons (tVar 0) (tCons (tLst (tCons (tC (.int 1)) (tCons (tUn (rU fun i => V.int (-i)) (tC (.int 1))) tNil))) tNil)) σ H2 Q := by
        intro σ H2 Q hσ T2 hQ
        refine ⟨_, hσ, 1, rfl, by decide, fun p hp => ?_⟩
        have np := notT T2 hp
        refine ⟨t, l, c, p, _, rfl, SqL.of upd_same, by simp, by show 2 < 1073741824; decide, np.1, np.2, (Same.upd hp).tape T2, fun i v H' hv T' b' => ?_⟩
        have bb : But t l H2 H' := (But.of (Same.upd hp)).trans b'
        match i, hv with
        | 0, hv => rw [← Option.some.inj hv]; exact hQ 1 H' (.inl rfl) T' bb
        | 1, hv => rw [← Option.some.inj hv]; exact hQ (-1) H' (.inr rfl) T' bb
        | i + 2, hv => simp at hv
      refine ⟨_, rfl, n, rfl, by omega, by omega, fun D hD => ?_⟩
      have nD := notT T5 hD
      have DO : O ≠ D := ne_of_none hO5 hD
      have hD0 : H D = none := b25.free nD.1 nD.2 hD
      refine lc_range (lo := 0) (n := n.toNat) (fun i H6 => Tape H6 t l c ∧ But t l H H6 ∧ H6 O = some (.lst (ys.map V.int)) ∧ ∃ as vs, H6 D = some (.lst vs) ∧ Ars H6 vs as ∧ as.map (fun a : Ar => a.1) = ys.take i ∧ ∀ a ∈ as, okA n a) ⟨(Same.upd hD).tape T5, b25.trans (But.of (Same.upd hD)), by rw [upd_ne DO]; exact hO5, [], [], upd_same, .nil, by simp, (fun a h => nomatch h)⟩ ?_ ?_
      · rintro i H6 hi ⟨T6, b6, hO6, as, vs, hD6, hA6, hm, ok⟩
        have hi' : i < ys.length := by omega
        have hz1 := List.getElem?_eq_getElem hi'
        obtain ⟨z2, m2, hz2⟩ : ∃ z2, z2 ∈ ys ∧ atI (ys.map V.int) (0 + (i : Int) - 1) = some (.int z2) := by
          by_cases h0 : i = 0
          · subst h0
            obtain ⟨z, hz⟩ : ∃ z, ys.getLast? = some z := ⟨_, List.getLast?_eq_some_getLast (by intro e; rw [e] at hi'; exact absurd hi' (Nat.not_lt_zero _))⟩
            exact ⟨z, List.mem_of_getLast? hz, atI_last (by rw [List.getLast?_map, hz]; rfl)⟩
          · have hj : i - 1 < ys.length := by omega
            refine ⟨ys[i - 1], List.getElem_mem hj, atI_int (by omega) ?_⟩
            rw [show ((0 : Int) + i - 1).toNat = i - 1 by omega, List.getElem?_map, List.getElem?_eq_getElem hj]
            rfl
        refine ⟨rfl, ?_⟩
        refine ⟨_, rfl, _, rfl, O, _, 0 + (i : Int), .int ys[i], rfl, rfl, SqL.of hO6, atI_int (by omega) (by rw [show ((0 : Int) + i).toNat = i by omega, List.getElem?_map, hz1]; rfl), ?_⟩
        refine ⟨_, rfl, _, rfl, _, _, rfl, rfl, O, _, 0 + (i : Int) - 1, .int z2, rfl, rfl, SqL.of hO6, hz2, ?_⟩
        refine pk _ _ _ rfl T6 fun sg H7 hsg T7 b7 => ?_
        refine ⟨(by show 3 ≤ sizeLine; decide), fun q hq => ?_⟩
        have nq := notT T7 hq
        have hD7 : H7 D = some (.lst vs) := b7 _ _ hD6 nD.1 nD.2
        have hO7 : H7 O = some (.lst (ys.map V.int)) := b7 _ _ hO6 nO.1 nO.2
        have qD : D ≠ q := ne_of_none hD7 hq
        have qO : O ≠ q := ne_of_none hO7 hq
        have hD8 : (upd H7 q (.tup [V.int ys[i], V.int z2, V.int sg])) D = some (.lst vs) := by rw [upd_ne qD]; exact hD7
        have hvl : vs.length = as.length := hA6.length
        have hal : as.length ≤ i := by
          have := congrArg List.length hm
          rw [List.length_map, List.length_take] at this
          omega
        have T8 : Tape (upd H7 q (.tup [V.int ys[i], V.int z2, V.int sg])) t l c := (Same.upd hq).tape T7
        have tD : ∀ b ys', (upd H7 q (.tup [V.int ys[i], V.int z2, V.int sg])) b = some (.tup ys') → (upd (upd H7 q (.tup [V.int ys[i], V.int z2, V.int sg])) D (.lst (vs ++ [.ref q]))) b = some (.tup ys') := fun b ys' e => by
          rw [upd_ne (ne_of e hD8 (by intro z; cases z))]; exact e
        obtain ⟨r, m, lg, cs, e1, e2, e3⟩ := T8.ex
        have Dc : c ≠ D := fun z => by
          obtain ⟨r0, m0, lg0, cs0, e01, e02, e03⟩ := TT.ex
          rw [z, hD0] at e03
          cases e03
        refine ⟨vs, hD8, small1000 (by omega), ⟨⟨r, m, lg, cs, ?_, ?_, ?_⟩, T8.lc⟩, fun b o hb h1 h2 => ?_, ?_, as ++ [((ys[i], z2, sg) : Ar)], _, upd_same, Paired.snoc (((hA6.keep (b7.tups T6)).keep (Same.upd hq).tups).keep tD) ⟨q, rfl, tD _ _ upd_same⟩, ?_, fun a ha => ?_⟩
        · rw [upd_ne (Ne.symm nD.1)]; exact e1
        · rw [upd_ne (Ne.symm nD.2)]; exact e2
        · rw [upd_ne Dc]; exact e3
        · have z6 := b6 _ _ hb h1 h2
          have z7 := b7 _ _ z6 h1 h2
          rw [upd_ne (ne_of_none hb hD0), upd_ne (ne_of_none z7 hq)]
          exact z7
        · rw [upd_ne DO, upd_ne qO]
          exact hO7
        · rw [List.map_append, hm, List.take_succ, hz1]
          rfl
        · rcases List.mem_append.mp ha with ha | ha
          · exact ok a ha
          · rw [List.mem_singleton.mp ha]
            have k1 := ybd _ (List.getElem_mem hi')
            have k2 := ybd _ m2
            exact ⟨k1.1, k1.2, k2.1, k2.2, hsg⟩
      · rintro H6 ⟨T6, b6, hO6, as, vs, hD6, hA6, hm, ok⟩
        rw [List.take_of_length_le (by omega)] at hm
        have hal : as.length = n.toNat := by
          have := congrArg List.length hm
          rw [List.length_map] at this
          omega
        have hvl : vs.length = as.length := hA6.length
        have nd : as.Nodup := by
          have h : (as.map fun a : Ar => a.1).Nodup := by rw [hm]; exact ynd
          exact (List.pairwise_map.mp h).imp fun h e => h (by rw [e])
        refine ⟨_, rfl, _, rfl, t, l, c, n, rfl, by omega, by omega, T6, fun d1 H7 d10 d11 T7 b7 => ?_⟩
        refine ⟨_, rfl, _, rfl, t, l, c, n, rfl, by omega, by omega, T7, fun d2 H8 d20 d21 T8 b8 => ?_⟩
        refine pk _ _ _ rfl T8 fun sg H9 hsg T9 b9 => ?_
        refine ⟨(by show 3 ≤ sizeLine; decide), fun q hq => ?_⟩
        have b69 : But t l H6 H9 := (b7.trans b8).trans b9
        have hD9 : H9 D = some (.lst vs) := b69 _ _ hD6 nD.1 nD.2
        have qD : D ≠ q := ne_of_none hD9 hq
        have sq : Same H9 (upd H9 q (.tup [V.int d1, V.int d2, V.int sg])) := Same.upd hq
        have hDq := sq _ _ hD9
        have hAq : Ars (upd H9 q (.tup [V.int d1, V.int d2, V.int sg])) vs as := (hA6.keep (b69.tups T6)).keep sq.tups
        have he : ArV (upd H9 q (.tup [V.int d1, V.int d2, V.int sg])) (.ref q) ((d1, d2, sg) : Ar) := ⟨q, rfl, upd_same⟩
        have oke : okA n ((d1, d2, sg) : Ar) := ⟨d10, d11, d20, d21, hsg⟩
        have Tq := sq.tape T9
        have bq : But t l H (upd H9 q (.tup [V.int d1, V.int d2, V.int sg])) := (b6.trans b69).trans (But.of sq)
        refine ⟨_, rfl, _, rfl, _, rfl, arD ((d1, d2, sg) : Ar), as.map arD, he.dp, .lst (SqL.of hDq) hAq.dp, shaped_of (lay_ar _) (Nat.le_trans (dep_ar _) (by decide)), shaped_arsL as, _, rfl, ?_⟩
        have em : ((as.map arD).any fun z => PyData.eqv z (arD ((d1, d2, sg) : Ar))) = decide (((d1, d2, sg) : Ar) ∈ as) := by
          rw [List.any_map]
          have e : ((fun z => PyData.eqv z (arD ((d1, d2, sg) : Ar))) ∘ arD) = fun a : Ar => decide (a = ((d1, d2, sg) : Ar)) := by
            funext a
            exact eqv_ar a _
          rw [e]
          by_cases h : ((d1, d2, sg) : Ar) ∈ as
          · rw [decide_eq_true h, List.any_eq_true]
            exact ⟨_, h, by simp⟩
          · rw [decide_eq_false h, List.any_eq_false]
            intro a ha hc
            rw [of_decide_eq_true hc] at ha
            exact h ha
        rw [em]
        have tail : ∀ (b : Addr) (zs : List V) (bs : List Ar) (Hb : Hp), Same (upd H9 q (.tup [V.int d1, V.int d2, V.int sg])) Hb → Hb b = some (.lst zs) → Ars Hb zs bs → (∀ a ∈ bs, okA n a) → (as ++ bs).Nodup → bs.length ≤ 1 → ∀ p, Hb p = none → Tape (upd Hb p (.lst (vs ++ zs))) t l c ∧ But t l H (upd Hb p (.lst (vs ++ zs))) ∧ Ars (upd Hb p (.lst (vs ++ zs))) (vs ++ zs) (as ++ bs) := by
          intro b zs bs Hb sb hb hB _ _ _ p hp
          refine ⟨(Same.upd hp).tape (sb.tape Tq), (bq.trans (But.of sb)).trans (But.of (Same.upd hp)), ?_⟩
          have sp2 : Same Hb (upd Hb p (.lst (vs ++ zs))) := Same.upd hp
          have h1 := (hAq.keep sb.tups).keep sp2.tups
          have h2 := hB.keep sp2.tups
          exact paired_append h1 h2
        by_cases hin : ((d1, d2, sg) : Ar) ∈ as
        · rw [decide_eq_true hin]
          refine iteF ?_
          refine ⟨by decide, fun b hb => ?_⟩
          have sb := Same.upd (o := .lst []) hb
          refine ⟨D, b, vs, [], rfl, rfl, sb _ _ hDq, upd_same, by rw [List.length_nil]; exact line1000 (by omega), fun p hp => ?_⟩
          obtain ⟨t1, t2, t3⟩ := tail b [] [] _ sb upd_same .nil (fun a h => nomatch h) (by rw [List.append_nil]; exact nd) (by decide) p hp
          exact fin _ _ p _ _ rfl t1 t2 upd_same t3 (by rw [List.append_nil]; exact ok) (by rw [List.append_nil]; exact nd) (by rw [List.append_nil]; omega)
        · rw [decide_eq_false hin]
          refine iteT ?_
          refine ⟨_, rfl, by show 1 ≤ sizeLine; decide, fun b hb => ?_⟩
          have sb := Same.upd (o := .lst [V.ref q]) hb
          have nd2 : (as ++ [((d1, d2, sg) : Ar)]).Nodup := List.nodup_append.mpr ⟨nd, List.pairwise_singleton _ _, fun a ha b hb e => by rw [List.mem_singleton.mp hb] at e; rw [e] at ha; exact hin ha⟩
          have ok2 : ∀ a ∈ as ++ [((d1, d2, sg) : Ar)], okA n a := fun a ha => by
            rcases List.mem_append.mp ha with ha | ha
            · exact ok a ha
            · rw [List.mem_singleton.mp ha]; exact oke
          refine ⟨D, b, vs, [.ref q], rfl, rfl, sb _ _ hDq, upd_same, line1000 (by simp; omega), fun p hp => ?_⟩
          obtain ⟨t1, t2, t3⟩ := tail b [.ref q] [((d1, d2, sg) : Ar)] _ sb upd_same (.cons (he.keep sb.tups) .nil) (fun a h => by rw [List.mem_singleton.mp h]; exact oke) nd2 (by show 1 ≤ 1; decide) p hp
          exact fin _ _ p _ _ rfl t1 t2 upd_same t3 ok2 nd2 (by rw [List.length_append, List.length_singleton]; omega)
end
end K3
set_option maxHeartbeats 4000000
namespace K3
open PySem L2 PySem.EX PyProof.Rows
open LamX (Tabs ExtN TabB LamS lamEnv lamCx lamS_by)
/-- a lambda's qualified name -/
abbrev lamQ (x : Str) : Str := x ++ Str.ofString ".<locals>." ++ Str.ofString "<lambda>"
abbrev sIsAt : Stmt := top 35
abbrev cT (K : PySem.W.Frag) : Addr := He.ga K "BadText"
abbrev cN (K : PySem.W.Frag) : Addr := He.ga K "NoPlan"
structure TxW (K : PySem.W.Frag) (mg : Str → Option Value) (c1 : Addr) : Prop where
  caught : Def K mg "_law_caught" sCaught
  plan : Def K mg "_law_plan" sPlan
  isAt : DefT K mg "_law_is_at" sIsAt c1
  net : mg "NetError" = some (.ref (He.ga K "NetError"))
  exT : PySem.W.exmOne K (.ref (cT K)) (.ref (He.ga K "NetError")) = some true
  exN : PySem.W.exmOne K (.ref (cN K)) (.ref (He.ga K "NetError")) = some true
  xcT : XC K (cT K)
  xcN : XC K (cN K)
  noI : PySem.W.findIn K (.ref (cT K)) "index" = some none
  strNone : PySem.W.kitOne K (.type "NoneType") (.type "str") = some false
section
variable {P : Program} {w : World} {K : PySem.W.Frag} {mg : Str → Option Value} {base : Heap} {c1 : Addr}
theorem scCaught : FnScope ["work", "found", "error"] ["work"] (defScope sCaught) := ⟨rfl, rfl, rfl, by decide +kernel, rfl, by decide +kernel, by decide +kernel⟩
theorem takes_caught (W : TxW K mg c1) (k : Nat) : Takes1 P w K mg base (He.ga K "_law_caught") 1 k (TCaught K (He.ga K "NetError")) := by
  obtain ⟨⟨fd, F⟩, g⟩ := W.caught
  obtain ⟨oc, od, dV, kV, doc, pm, an, cdv, ct, osl, rfl, lk, hcd, hD, _⟩ := F.ex
  rcases hD with ⟨_, rfl⟩ | ⟨e, _⟩
  · exact caught_takes lk hcd scCaught rfl (fun us hl => match us, hl with | [_], _ => rfl) rfl rfl rfl rfl W.net
  · exact absurd rfl e
theorem kp_caught (W : TxW K mg c1) : PySem.W.keepIn K (.ref (He.ga K "_law_caught")) = true := by
  obtain ⟨⟨fd, F⟩, g⟩ := W.caught
  exact F.kp
/-- reading t fails at the line j -/
def RB (t : Str) (j : Int) : Prop := t.length + 2 ≤ sizeLine ∧ ((∃ l0 r, Txt.split t nl = l0 :: r ∧ (∀ m : Int, 1 ≤ m → m ≤ 5 → l0 ≠ headS m) ∧ j = 0) ∨
    ∃ (n : Int) (pre : List Ar) (b : Str) (post : List Str), 1 ≤ n ∧ n ≤ 5 ∧ Txt.split t nl = headS n :: (pre.map lineS ++ b :: post) ∧ (pre.length + (b :: post).length) < 1000 ∧ (∀ a ∈ pre, okA n a) ∧ Asc pre ∧ (∀ l ∈ b :: post, Fine l) ∧ Stops n pre b ∧ j = 1 + pre.length)
theorem read_bad {t : Str} {j : Int} (h : RB t j) {H : Hp} {Q : VK} {E : XK} (x : XOut (cT K) .index (.int j) H E) : spRead K [.str t] H Q E := by
  obtain ⟨h1, h2⟩ := h
  refine ⟨_, rfl, .inr ⟨t, rfl, h1, ?_⟩⟩
  rcases h2 with ⟨l0, r, e, hn, rfl⟩ | ⟨n, pre, b, post, n0, n1, e, hl, ok, asc, hf, hs, rfl⟩
  · exact .inl ⟨l0, r, e, hn, x⟩
  · exact .inr ⟨n, pre, b :: post, n0, n1, e, hl, ok, asc, hf, .inr ⟨b, post, rfl, hs, x⟩⟩
def spIsAt (T : List (Addr × Str)) : Sp := fun vs H Q _ => ∃ (t : Str) (j : Int), vs = [.str t, .int j] ∧ RB t j ∧ Tabs T H ∧ ∀ H', ExtN H H' → Tabs T H' → Q (.bl true) H'
theorem scIsAt : FnScope ["text", "spot", "caught"] ["text", "spot"] (defScope sIsAt) := ⟨rfl, rfl, rfl, by decide +kernel, rfl, by decide +kernel, by decide +kernel⟩
theorem ok_isAt {T : List (Addr × Str)} {P1 : Addr} (X1 : TxP P K mg) (C : TxC K mg) (S : TxS K w mg) (W : TxW K mg c1) (TB : TabB base mg c1 P1) (hmT : (P1, lamQ "_law_is_at") ∈ T) (hu : ∀ p ∈ T, p.1 = P1 → p.2 = lamQ "_law_is_at") :
    Fnc P w K mg base CX0 10 "_law_is_at" ["text", "spot"] (spIsAt T) := by
  have GR : Fnc P w K mg base (L2.CX P w) 7 "read_plan" ["text"] (spRead K) := ok_read X1 C S
  obtain ⟨gB, _⟩ := X1.badText
  refine fncT' W.isAt scIsAt (fun vs H Q E h => ?_) (fun _ _ _ _ _ _ us hl => match us, hl with | [_, _], _ => rfl) (fun A outer s H vs Q E hr h => ?_)
  · obtain ⟨t, j, rfl, _⟩ := h
    rfl
  · obtain ⟨t, j, rfl, hb, hT, k⟩ := h
    refine ⟨_, pss_cons (ps_set (i := 2) scIsAt.nd rfl (Or.inl rfl) (pe_lam1 (T := T) (Pt := P1) (j := 1) (k := 7) (t := fun E => tFn (spRead K) E (tCons (tVar 0) tNil)) (takes_caught W 8) W.caught.2 (kp_caught W) TB rfl hmT hu hr (lamS_by (sc := defScope sIsAt) (by decide +kernel))
        (fun A outer s H E f c' hr2 => pe_fn GR hr2 (passes_call (takes_of rfl rfl rfl rfl) (fun _ _ _ _ h => h)) (pa_cons (pv 0) pa_nil))))
      (pss_one (ps_ret (pe_and (pe_callB call_isA (by rfl) X1.isinst (by decide +kernel) (pa_cons (pv 2) (pa_cons (pe_glob (v := .ref (cT K)) (by rfl) gB rfl) pa_nil)))
        (pe_one (pe_cmpR op_eq (pe_xfld (pv 2)) (pv 1) (nomark _)))))), ?_⟩
    refine ⟨hT, fun H1 e1 T1 => ?_⟩
    refine ⟨_, rfl, ?_⟩
    dsimp only [tNil]
    refine read_bad hb fun d H2 s2 hd => ?_
    refine ⟨true, W.exT, fun _ a ha => ?_, fun z => nomatch z⟩
    have da : d ≠ a := ne_of_none hd ha
    have hd' : (upd H2 a (ExV (.ref (cT K)) (some d) a)) d = some (.xd [(Fk.index.name, V.int j)]) := by rw [upd_ne da]; exact hd
    refine ⟨_, rfl, .inl ⟨a, cT K, some d, _, .ref (cT K), _, true, rfl, .own _, upd_same, .inr ⟨d, rfl, hd'⟩, W.xcT, kit_same, true, rfl, iteT ?_⟩⟩
    refine ⟨_, rfl, a, cT K, d, _, .int j, rfl, upd_same, hd', W.xcT, W.noI, rfl, _, rfl, rfl, ?_⟩
    have e2 : Same H1 (upd H2 a (ExV (.ref (cT K)) (some d) a)) := s2.trans (Same.upd ha)
    have ej : decide (V.int j = V.int j) = true := by simp
    rw [ej]
    exact k _ (e1.trans (ExtN.of e2)) (T1.ext e2)
end
end K3
set_option maxHeartbeats 4000000
namespace K3
open PySem L2 PySem.EX PyProof.Rows
open TL (tl)
/-! ### the plain law of the law -/
/-- one lap's plan -/
structure Pl (n : Int) (as : List Ar) : Prop where
  n0 : 1 ≤ n
  n1 : n ≤ 5
  ok : ∀ a ∈ as, okA n a
  asc : Asc as
  len : as.length ≤ 60
theorem linesS_len (n : Int) (as : List Ar) : (linesS n as).length = as.length + 1 := by unfold linesS; rw [List.length_cons, List.length_map]
theorem linesS_mem {n : Int} {as : List Ar} (h : Pl n as) : ∀ l ∈ linesS n as, 10 ∉ tl l ∧ l.length ≤ 20 := by
  intro l hl
  refine ⟨lines_free h.n0 h.n1 h.ok l hl, ?_⟩
  unfold linesS at hl
  rcases List.mem_cons.mp hl with rfl | hl
  · rw [headS_len h.n0 h.n1]; decide
  · obtain ⟨a, ha, rfl⟩ := List.mem_map.mp hl
    exact Nat.le_trans (lineS_len (h.ok a ha) h.n1) (by decide)
/-- lines that may be joined and split -/
structure Ls (ls : List Str) : Prop where
  ne : ls ≠ []
  mem : ∀ l ∈ ls, 10 ∉ tl l ∧ l.length ≤ 20
  len : ls.length ≤ 900
theorem Ls.split {ls : List Str} (h : Ls ls) : Txt.split (Txt.join nl ls) nl = ls := split_nl h.ne fun l hl => (h.mem l hl).1
theorem Ls.small {ls : List Str} (h : Ls ls) : (ls.map (·.length)).sum + ls.length * nl.length ≤ 16777216 ∧ (Txt.join nl ls).length + 2 ≤ sizeLine := lines_small (fun l hl => (h.mem l hl).2) (by have := h.len; omega)
theorem Pl.ls {n : Int} {as : List Ar} (h : Pl n as) : Ls (linesS n as) := ⟨by unfold linesS; simp, linesS_mem h, by rw [linesS_len]; have := h.len; omega⟩
theorem asc_take {as : List Ar} (h : Asc as) (k : Nat) : Asc (as.take k) := List.Pairwise.sublist (List.take_sublist k as) h
theorem fine_lines {n : Int} {as : List Ar} (h1 : n ≤ 5) (ok : ∀ a ∈ as, okA n a) : ∀ l ∈ as.map lineS, Fine l := fun l hl => by
  obtain ⟨a, ha, rfl⟩ := List.mem_map.mp hl
  exact line_fine (ok a ha) h1
/-- 1: an odd line at s -/
theorem odd_at {n : Int} {as : List Ar} (h : Pl n as) {s : Nat} {l o : Str} (hl : (linesS n as)[s]? = some l) (ho : o ∈ odds n l) :
    Ls ((linesS n as).take s ++ [o] ++ (linesS n as).drop (s + 1)) ∧ RB (Txt.join nl ((linesS n as).take s ++ [o] ++ (linesS n as).drop (s + 1))) s := by
  have hs : s < as.length + 1 := by
    have := (List.getElem?_eq_some_iff.mp hl).1
    rw [linesS_len] at this
    exact this
  have hlen := h.len
  have of1 : 10 ∉ tl o ∧ o.length ≤ 20 := by
    cases s with
    | zero =>
      have e : l = headS n := by unfold linesS at hl; exact (Option.some.inj hl).symm
      subst e
      exact (odd_head h.n0 h.n1 o ho).2
    | succ s =>
      unfold linesS at hl
      rw [List.getElem?_cons_succ, List.getElem?_map] at hl
      cases e : as[s]? with
      | none => rw [e] at hl; cases hl
      | some a =>
        rw [e] at hl
        have e2 : lineS a = l := Option.some.inj hl
        subst e2
        obtain ⟨_, f1, f2, _⟩ := odd_line h.n0 h.n1 (h.ok a (List.mem_of_getElem? e)) o ho
        exact ⟨f1, f2⟩
  have hL : Ls ((linesS n as).take s ++ [o] ++ (linesS n as).drop (s + 1)) := by
    refine ⟨by simp, fun x hx => ?_, ?_⟩
    · rcases List.mem_append.mp hx with hx | hx
      · rcases List.mem_append.mp hx with hx | hx
        · exact linesS_mem h x (List.mem_of_mem_take hx)
        · rw [List.mem_singleton.mp hx]; exact of1
      · exact linesS_mem h x (List.mem_of_mem_drop hx)
    · rw [List.length_append, List.length_append, List.length_take, List.length_drop, linesS_len, List.length_singleton]
      omega
  refine ⟨hL, hL.small.2, ?_⟩
  rw [hL.split]
  cases s with
  | zero =>
    have e : l = headS n := by unfold linesS at hl; exact (Option.some.inj hl).symm
    subst e
    refine .inl ⟨o, _, rfl, fun m m0 m1 e => ?_, rfl⟩
    have := (odd_head h.n0 h.n1 o ho).1
    rw [e, headS_len m0 m1] at this
    exact this rfl
  | succ s =>
    unfold linesS at hl ⊢
    rw [List.getElem?_cons_succ, List.getElem?_map] at hl
    cases e : as[s]? with
    | none => rw [e] at hl; cases hl
    | some a =>
      rw [e] at hl
      have e2 : lineS a = l := Option.some.inj hl
      subst e2
      obtain ⟨f0, f1⟩ := odd_line h.n0 h.n1 (h.ok a (List.mem_of_getElem? e)) o ho
      refine .inr ⟨n, as.take s, o, (as.drop (s + 1)).map lineS, h.n0, h.n1, ?_, ?_, fun b hb => h.ok b (List.mem_of_mem_take hb), asc_take h.asc s, fun x hx => ?_, .inl f0, ?_⟩
      · rw [List.take_succ_cons, List.drop_succ_cons, List.map_take, List.map_drop]
        simp
      · rw [List.length_take, List.length_cons, List.length_map, List.length_drop]
        omega
      · rcases List.mem_cons.mp hx with rfl | hx
        · exact f1
        · exact fine_lines h.n1 (fun b hb => h.ok b (List.mem_of_mem_drop hb)) x hx
      · rw [List.length_take, Nat.min_eq_left (by omega)]
        omega
theorem asc_last {as : List Ar} (h : Asc as) {a la : Ar} (ha : a ∈ as) (hl : as.getLast? = some la) : ¬ lt3 la a := by
  intro q
  obtain ⟨i, hi, e⟩ := List.mem_iff_getElem.mp ha
  rw [List.getLast?_eq_getElem?] at hl
  obtain ⟨hj, e2⟩ := List.getElem?_eq_some_iff.mp hl
  by_cases hij : i = as.length - 1
  · subst hij
    rw [e] at e2
    rw [e2] at q
    exact lt3_irr _ q
  · have := List.pairwise_iff_getElem.mp h i (as.length - 1) hi hj (by omega)
    rw [e, e2] at this
    exact lt3_irr _ (lt3_trans this q)
theorem head_fine {n : Int} (n0 : 1 ≤ n) (n1 : n ≤ 5) : Fine (headS n) := by
  have j : headS n = Str.join sp [Str.ofString "switches", nS n] := by
    unfold headS
    refine TL.ext_tl ?_
    rw [TL.tl_join]
    simp only [TL.tl_append, List.map_cons, List.map_nil, TL.joinL]
    rw [show tl (Str.ofString "switches ") = tl (Str.ofString "switches") ++ tl sp from by decide +kernel, List.append_assoc]
  refine fine_of j (by simp) (fun p hp => ?_) (head_free n0 n1) (by rw [headS_len n0 n1]; decide) (by show 2 ≤ 1000; decide)
  rcases List.mem_cons.mp hp with rfl | hp
  · decide +kernel
  · rw [List.mem_singleton.mp hp]
    exact nS_free (by omega) (by omega) (by decide)
/-- 2: a line told again at the end -/
theorem again_at {n : Int} {as : List Ar} (h : Pl n as) {l : Str} (hl : l ∈ linesS n as) : Ls (linesS n as ++ [l]) ∧ RB (Txt.join nl (linesS n as ++ [l])) (linesS n as).length := by
  have hlen := h.len
  have hL : Ls (linesS n as ++ [l]) := by
    refine ⟨by simp, fun x hx => ?_, ?_⟩
    · rcases List.mem_append.mp hx with hx | hx
      · exact linesS_mem h x hx
      · rw [List.mem_singleton.mp hx]; exact linesS_mem h l hl
    · rw [List.length_append, linesS_len, List.length_singleton]
      omega
  refine ⟨hL, hL.small.2, .inr ⟨n, as, l, [], h.n0, h.n1, by rw [hL.split]; rfl, ?_, h.ok, h.asc, fun x hx => ?_, ?_, ?_⟩⟩
  · rw [List.length_cons, List.length_nil]; omega
  · rw [List.mem_singleton.mp hx]
    unfold linesS at hl
    rcases List.mem_cons.mp hl with rfl | hl
    · exact head_fine h.n0 h.n1
    · exact fine_lines h.n1 h.ok _ hl
  · unfold linesS at hl
    rcases List.mem_cons.mp hl with rfl | hl
    · exact .inl (head_noA h.n0 h.n1)
    · obtain ⟨a, ha, rfl⟩ := List.mem_map.mp hl
      obtain ⟨la, hla⟩ : ∃ la, as.getLast? = some la := ⟨_, List.getLast?_eq_some_getLast (List.ne_nil_of_mem ha)⟩
      exact .inr ⟨a, la, h.ok a ha, rfl, hla, asc_last h.asc ha hla⟩
  · rw [linesS_len]
    omega
/-- 3: the last two crossed -/
theorem crossed_at {n : Int} {pre : List Ar} {x y : Ar} (h : Pl n (pre ++ [x, y])) : Ls (linesS n pre ++ [lineS y, lineS x]) ∧ RB (Txt.join nl (linesS n pre ++ [lineS y, lineS x])) (1 + (pre.length + 1 : Nat)) := by
  have hlen := h.len
  rw [List.length_append] at hlen
  have okx := h.ok x (by simp)
  have oky := h.ok y (by simp)
  have okp : ∀ a ∈ pre, okA n a := fun a ha => h.ok a (by simp [ha])
  have asc := h.asc
  have hxy : lt3 x y := by
    have := (List.pairwise_append.mp asc).2.1
    exact (List.pairwise_cons.mp this).1 y (by simp)
  have hpre : Pl n pre := ⟨h.n0, h.n1, okp, (List.pairwise_append.mp asc).1, by omega⟩
  have hL : Ls (linesS n pre ++ [lineS y, lineS x]) := by
    refine ⟨by simp, fun z hz => ?_, ?_⟩
    · rcases List.mem_append.mp hz with hz | hz
      · exact linesS_mem hpre z hz
      · rcases List.mem_cons.mp hz with rfl | hz
        · exact ⟨line_free oky h.n1, Nat.le_trans (lineS_len oky h.n1) (by decide)⟩
        · rw [List.mem_singleton.mp hz]
          exact ⟨line_free okx h.n1, Nat.le_trans (lineS_len okx h.n1) (by decide)⟩
    · rw [List.length_append, linesS_len]
      show pre.length + 1 + 2 ≤ 900
      omega
  refine ⟨hL, hL.small.2, .inr ⟨n, pre ++ [y], lineS x, [], h.n0, h.n1, ?_, ?_, fun a ha => ?_, ?_, fun z hz => ?_, ?_, ?_⟩⟩
  · rw [hL.split]
    unfold linesS
    simp
  · rw [List.length_append]
    show pre.length + 1 + 1 < 1000
    omega
  · rcases List.mem_append.mp ha with ha | ha
    · exact okp a ha
    · rw [List.mem_singleton.mp ha]; exact oky
  · refine List.pairwise_append.mpr ⟨hpre.asc, List.pairwise_singleton _ _, fun a ha b hb => ?_⟩
    rw [List.mem_singleton.mp hb]
    exact (List.pairwise_append.mp asc).2.2 a ha y (by simp)
  · rw [List.mem_singleton.mp hz]
    exact line_fine okx h.n1
  · exact .inr ⟨x, y, okx, rfl, by simp, fun q => lt3_irr _ (lt3_trans hxy q)⟩
  · rw [List.length_append, List.length_singleton]
/-- 4: no text -/
theorem empty_at : RB "" 0 := by
  have e : (Str.ofString "") = Txt.join nl [Str.ofString ""] := by rw [TL.join_eq] <;> rfl
  refine ⟨by decide +kernel, .inl ⟨"", [], ?_, fun m m0 m1 h => ?_, rfl⟩⟩
  · rw [e, split_nl (by simp) (by decide +kernel)]
    rfl
  · have := headS_len m0 m1
    rw [← h] at this
    exact absurd this (by decide +kernel)
/-- 5: reading a plan's text -/
theorem read_good {K : PySem.W.Frag} {n : Int} {as : List Ar} (h : Pl n as) {H : Hp} {Q : VK} {E : XK} (q : ∀ x H', Same H H' → PlanAt K H' x n as → Q (.ref x) H') : spRead K [.str (textS n as)] H Q E := by
  refine ⟨_, rfl, .inr ⟨textS n as, rfl, h.ls.small.2, .inr ⟨n, as, [], h.n0, h.n1, ?_, by have := h.len; rw [List.length_nil]; omega, h.ok, h.asc, (fun l hl => nomatch hl), .inl ⟨rfl, q⟩⟩⟩⟩
  unfold textS
  rw [h.ls.split, List.append_nil]
  rfl
theorem Pl.front {n : Int} {as bs : List Ar} (h : Pl n (as ++ bs)) : Pl n as :=
  ⟨h.n0, h.n1, fun a ha => h.ok a (List.mem_append_left _ ha), (List.pairwise_append.mp h.asc).1, by have := h.len; rw [List.length_append] at this; omega⟩
end K3
set_option maxHeartbeats 8000000
namespace K3
open PySem L2 PySem.EX PyProof.Rows
open LamX (Tabs ExtN TabB)
/-- what a lap keeps: its lines at M, its arrows at p -/
structure LJ (T : List (Addr × Str)) (t l c M p : Addr) (n : Int) (as : List Ar) (H : Hp) : Prop where
  tp : Tape H t l c
  tb : Tabs T H
  ln : H M = some (.lst ((linesS n as).map V.str))
  mt : M ≠ t
  ml : M ≠ l
  ar : ∃ ys, H p = some (.tup ys) ∧ Ars H ys as
theorem LJ.but {T : List (Addr × Str)} {t l c M p : Addr} {n : Int} {as : List Ar} {H H' : Hp} (j : LJ T t l c M p n as H) (b : But t l H H') (T' : Tape H' t l c) : LJ T t l c M p n as H' := by
  obtain ⟨ys, h1, h2⟩ := j.ar
  exact ⟨T', Tabs.but j.tb b j.tp, b _ _ j.ln j.mt j.ml, j.mt, j.ml, ys, b.tups j.tp _ _ h1, h2.keep (b.tups j.tp)⟩
theorem LJ.ext {T : List (Addr × Str)} {t l c M p : Addr} {n : Int} {as : List Ar} {H H' : Hp} (j : LJ T t l c M p n as H) (e : ExtN H H') (T' : Tabs T H') : LJ T t l c M p n as H' := by
  obtain ⟨ys, h1, h2⟩ := j.ar
  exact ⟨L2.ExtN.tape e j.tp, T', e _ _ j.ln (by intro ps z; cases z), j.mt, j.ml, ys, L2.ExtN.tups e _ _ h1, h2.keep (L2.ExtN.tups e)⟩
theorem LJ.same {T : List (Addr × Str)} {t l c M p : Addr} {n : Int} {as : List Ar} {H H' : Hp} (j : LJ T t l c M p n as H) (e : Same H H') : LJ T t l c M p n as H' := j.ext (ExtN.of e) (j.tb.ext e)
theorem cut_to {xs : List V} {s : Nat} (h : s ≤ xs.length) : cutV xs none (some (s : Int)) = xs.take s := by
  unfold cutV
  rw [HT.sIx_none, HT.sIx_nat, Nat.min_eq_left h, Nat.sub_zero, List.drop_zero]
theorem cut_from {xs : List V} {s : Nat} (h : s ≤ xs.length) : cutV xs (some (s : Int)) none = xs.drop s := by
  unfold cutV
  rw [HT.sIx_none, HT.sIx_nat, Nat.min_eq_left h, List.take_of_length_le (by rw [List.length_drop]; exact Nat.le_refl _)]
theorem cut_neg {xs : List V} {k : Nat} (k0 : 0 < k) (h : k ≤ xs.length) : cutV xs none (some (-(k : Int))) = xs.take (xs.length - k) := by
  have e : HT.sIx xs.length xs.length (some (-(k : Int))) = xs.length - k := by
    show (if -(k : Int) < 0 then (-(k : Int) + (xs.length : Int)).toNat else min (-(k : Int)).toNat xs.length) = _
    rw [if_pos (by omega)]
    omega
  unfold cutV
  rw [HT.sIx_none, e, Nat.sub_zero, List.drop_zero]
theorem atI_neg {xs : List V} {k : Nat} {v : V} (k0 : 0 < k) (h : k ≤ xs.length) (e : xs[xs.length - k]? = some v) : atI xs (-(k : Int)) = some v := by
  unfold atI ixN
  rw [if_neg (by omega), if_pos (by omega)]
  show xs[(-(k : Int) + (xs.length : Int)).toNat]? = some v
  rw [show (-(k : Int) + (xs.length : Int)).toNat = xs.length - k by omega]
  exact e
theorem seq_alt {t u : TS} {D : Ends} {σ : L2.St} {H : Hp} (Sh : L2.St → Hp → Prop) (h : ∀ G : L2.St → Hp → Prop, (∀ σ' H', Sh σ' H' → G σ' H') → t { D with nx := G } σ H) (hu : ∀ σ' H', Sh σ' H' → u D σ' H') : tSeq t u D σ H := h (u D) hu
theorem paired_take {α β : Type} {F : α → β → Prop} : ∀ {l : List α} {m : List β} (k : Nat), Paired F l m → Paired F (l.take k) (m.take k)
  | _, _, 0, _ => .nil
  | _, _, _ + 1, .nil => .nil
  | _, _, k + 1, .cons h t => .cons h (paired_take k t)
theorem two_last {as : List Ar} (h : 2 ≤ as.length) : ∃ pre x y, as = pre ++ [x, y] := by
  have hd : (as.drop (as.length - 2)).length = 2 := by rw [List.length_drop]; omega
  have e := (List.take_append_drop (as.length - 2) as).symm
  match hz : as.drop (as.length - 2), hd with
  | [x, y], _ => exact ⟨as.take (as.length - 2), x, y, by rw [hz] at e; exact e⟩
theorem lines_snoc2 (n : Int) (pre : List Ar) (x y : Ar) : linesS n (pre ++ [x, y]) = linesS n pre ++ [lineS x, lineS y] := by
  unfold linesS
  simp
theorem lines_snoc1 (n : Int) (pre : List Ar) (x y : Ar) : linesS n (pre ++ [x, y]) = linesS n (pre ++ [x]) ++ [lineS y] := by
  unfold linesS
  simp
theorem told_sort : ([(1, 0, -1), (0, 1, -1)] : List Ar).mergeSort le3 = [(0, 1, -1), (1, 0, -1)] := by
  have h := sort_idA (as := ([(0, 1, -1), (1, 0, -1)] : List Ar)) (by unfold Asc lt3; decide)
  rw [← h]
  first
    | decide +kernel
    | simp [List.mergeSort, le3, lt3]
theorem told_lines : linesS 2 ([(0, 1, -1), (1, 0, -1)] : List Ar) = ([Str.ofString "switches 2", Str.ofString "0 hinders 1", Str.ofString "1 hinders 0"] : List Str) := by decide +kernel
theorem told_plan : Pl 2 ([(0, 1, -1), (1, 0, -1)] : List Ar) := ⟨by decide, by decide, by unfold okA; decide, by unfold Asc lt3; decide, by decide⟩
theorem ok_tl (x : Str) : (PyData.str x).canLay0 = (TL.tl x).all (· < 0x110000) := by
  rw [PyData.canLay0]
  unfold PyData.strOk TL.tl
  simp
theorem nS_ok {i : Int} (h0 : 0 ≤ i) (h1 : i < 10) : (TL.tl (nS i)).all (· < 0x110000) = true := by
  rw [nS_tl h0 h1]
  simp
  omega
theorem lay_lines {n : Int} {as : List Ar} (h : Pl n as) : ∀ x ∈ linesS n as, (PyData.str x).canLay0 = true := by
  have hn0 := h.n0
  have hn1 := h.n1
  intro x hx
  rw [ok_tl]
  unfold linesS at hx
  rcases List.mem_cons.mp hx with rfl | hx
  · unfold headS
    rw [TL.tl_append, List.all_append, nS_ok (by omega) (by omega)]
    decide +kernel
  · obtain ⟨a, ha, rfl⟩ := List.mem_map.mp hx
    obtain ⟨h1, h2, h3, h4⟩ := (h.ok a ha).b h.n1
    unfold lineS signS
    rw [TL.tl_append, TL.tl_append, List.all_append, List.all_append, nS_ok h1 h2, nS_ok h3 h4]
    split <;> decide +kernel
end K3
set_option maxHeartbeats 8000000
namespace K3
open PySem L2 PySem.EX PyProof.Rows
open LamX (Tabs ExtN TabB LamS lamEnv lamCx lamS_by)
abbrev sLaw : Stmt := top 36
abbrev nLaw : List Str := ["script", "lap", "many", "arrows", "plan", "turn", "spot", "odd", "crossed", "caught", "lines", "tape", "text", "source", "target", "sign"]
theorem scLaw : FnScope nLaw ["script"] (defScope sLaw) := ⟨rfl, rfl, rfl, by decide +kernel, rfl, by decide +kernel, by decide +kernel⟩
def spLaw (K : PySem.W.Frag) (T : List (Addr × Str)) : Sp := fun vs H Q _ => ∃ (a : Addr) (ns : List Int), vs = [.ref a] ∧ SqL K H a (ns.map V.int) ∧ ns.length ≤ 63 ∧ Tabs T H ∧ ∀ H', Q (.bl true) H'
structure Txs (P : Program) (w : World) (K : PySem.W.Frag) (mg : Str → Option Value) (c1 c2 : Addr) : Prop where
  l : TxL K mg
  p : TxP P K mg
  c : TxC K mg
  u : TxQ K mg
  s : TxS K w mg
  w : TxW K mg c1
  law : DefT K mg "law" sLaw c2
  min : mg "min" = none
section
variable {P : Program} {w : World} {K : PySem.W.Frag} {mg : Str → Option Value} {base : Heap} {c1 c2 : Addr}
theorem ok_law {T : List (Addr × Str)} {P1 P2 : Addr} (Z : Txs P w K mg c1 c2) (TB1 : TabB base mg c1 P1) (TB2 : TabB base mg c2 P2) (hm1 : (P1, lamQ "_law_is_at") ∈ T) (hu1 : ∀ p ∈ T, p.1 = P1 → p.2 = lamQ "_law_is_at")
    (hm2 : (P2, lamQ "law") ∈ T) (hu2 : ∀ p ∈ T, p.1 = P2 → p.2 = lamQ "law") : ∃ fd, FnOk P w K mg base CX0 11 (He.ga K "law") fd ["script"] (spLaw K T) ∧ Binds K fd ["script"] [] ∧ FunD K "law" "law" (defArgs sLaw) (defBody sLaw) (defScope sLaw) [] [] (He.ga K "law") fd := by
  obtain ⟨L, X1, C, U, S, W, hlaw, hmin⟩ := Z
  have GB : Fnc P w K mg base CX0 1 "_law_begun" ["script"] (spBegun K) := ok_begun L
  have GD : Fnc P w K mg base CX0 2 "_law_draw" ["tape", "size"] spDraw := ok_draw L
  have GP : Fnc P w K mg base CX0 3 "_law_pick" ["tape", "several"] (spPick K) := ok_pick L
  have GL : Fnc P w K mg base CX0 4 "_law_plan" ["tape", "many"] spPlan := ok_plan L X1 C W.plan
  have GT : Fnc P w K mg base (L2.CX P w) 3 "plan_text" ["plan"] (spText K) := ok_text X1 C U
  have GR : Fnc P w K mg base (L2.CX P w) 7 "read_plan" ["text"] (spRead K) := ok_read X1 C S
  have GA : Fnc P w K mg base CX0 10 "_law_is_at" ["text", "spot"] (spIsAt T) := ok_isAt X1 C S W TB1 hm1 hu1
  have KT : Kw1 P w K mg base (L2.CX P w) 3 "plan_text" "plan" (spText K) := (ok_textX X1 C U).kw (fun _ _ _ _ _ _ _ => rfl)
  have KR : Kw1 P w K mg base (L2.CX P w) 7 "read_plan" "text" (spRead K) := (ok_readX X1 C S).kw (fun _ _ _ _ _ _ _ => rfl)
  obtain ⟨fdI, FI, hbI⟩ := ok_init (P := P) (w := w) (base := base) X1 C
  obtain ⟨fdE, FE, hbE⟩ := ok_eqP (P := P) (w := w) (base := base) X1 C
  obtain ⟨gT, _⟩ := X1.badText
  obtain ⟨gN, _⟩ := X1.noPlan
  refine fncT (k := 10) hlaw scLaw (fun vs H Q E h => ?_) (fun _ _ _ _ _ _ us hl => match us, hl with | [_], _ => rfl) (fun A outer s H vs Q E hr h => ?_)
  · obtain ⟨a, ns, rfl, _⟩ := h
    rfl
  · obtain ⟨a, ns, rfl, hS, hlen, hT, k⟩ := h
    have nd := scLaw.nd
    have h1 := hr.mono (show 1 ≤ 10 by decide)
    have h2 := hr.mono (show 2 ≤ 10 by decide)
    have h3 := hr.mono (show 3 ≤ 10 by decide)
    have h4 := hr.mono (show 4 ≤ 10 by decide)
    have h6 := hr.mono (show 6 ≤ 10 by decide)
    have h7 := hr.mono (show 7 ≤ 10 by decide)
    have h9 := hr.mono (show 9 ≤ 10 by decide)
    have pE : Passes (L2.CX P w) (cxOf CX0 P w K mg base nLaw "law" (defScope sLaw) (He.ga K "law") (.ref c2) A outer s H E).nox E0 := passes_call LamX.takes0 (fun _ _ _ _ h => h)
    refine ⟨_, pss_cons (ps_set (i := 11) nd rfl (Or.inr rfl) (pe_fn GB h1 pass0 (pa_cons (pv 0) pa_nil)))
      (pss_cons (ps_for PassesOwn.never rfl (pi_range1 (by rfl) X1.range (pa_cons (pe_op op_add pe_int (pe_callB (call_min2 rfl) (by rfl) hmin (by decide +kernel) (pa_cons (pe_callB call_len_seq (by rfl) X1.len PySem.boot_len (pa_cons (pv 0) pa_nil)) (pa_cons pe_int pa_nil)))) pa_nil)) (pg_name (i := 1) nd rfl (Or.inl rfl))
        (pss_cons (ps_set (i := 2) nd rfl (Or.inl rfl) (pe_op op_add pe_int (pe_fn GD h2 pass0 (pa_cons (pv 11) (pa_cons pe_int pa_nil)))))
        (pss_cons (ps_set (i := 3) nd rfl (Or.inl rfl) (pe_fn GL h4 pass0 (pa_cons (pv 11) (pa_cons (pv 2) pa_nil))))
        (pss_cons (ps_set (i := 4) nd rfl (Or.inl rfl) (pe_make (E := E0) C.mkr FI h6 (by rfl) C.glo hbI .nil pass0 (pa_cons (pv 2) (pa_cons (pe_callTy call_list_of (by rfl) X1.list (by decide +kernel) (pa_cons (pv 3) pa_nil)) pa_nil))))
        (pss_cons (ps_set (i := 10) nd rfl (Or.inr rfl) (pe_op op_cat (pe_lst (pa_cons (pe_op op_add_str pe_str (pe_callTy call_str_int (by rfl) X1.str (by decide +kernel) (pa_cons (pv 2) pa_nil))) pa_nil))
          (pe_lc (own := [("source", 13), ("target", 14), ("sign", 15)]) (g := gTup K 3 (gCons (gName 13) (gCons (gName 14) (gCons (gName 15) gNil)))) (tt := tYes) rfl nd (pi_tup (pv 3)) (blkOk_by (N := nLaw) (sc := defScope sLaw) (by decide +kernel))
            (fun _ _ _ _ _ => pg_tup rfl (pgs_cons (pg_name (i := 13) nd rfl (Or.inl rfl)) (pgs_cons (pg_name (i := 14) nd rfl (Or.inl rfl)) (pgs_cons (pg_name (i := 15) nd rfl (Or.inl rfl)) pgs_nil)))) (fun _ _ _ _ _ => pts_nil)
            (fun _ _ _ _ _ => pe_op op_add_str (pe_op op_add_str (pe_callTy call_str_int (by rfl) X1.str (by decide +kernel) (pa_cons (pv 13) pa_nil)) (pe_ifExp (pt_cmpR op_eq (pv 15) pe_int (nomark _)) pe_str pe_str)) (pe_callTy call_str_int (by rfl) X1.str (by decide +kernel) (pa_cons (pv 14) pa_nil))))))
        (pss_cons (ps_set (i := 12) nd rfl (Or.inr rfl) (pe_fn GT h3 pE (pa_cons (pv 4) pa_nil)))
        (pss_cons (ps_if (PW.pt (pw_or (pt_cmpR (op_neD hr.units) (pe_split (pv 12) pe_str) (pv 10) (nomark _))
            (pw_or (pt_cmpR op_ne (pe_kw1 KT h3 pE (pv 4)) (pv 12) (nomark _))
            (pw_or (pt_cmpR (op_neI (E := E0) FE C.eqf C.eqn C.ne C.ob hbE pass0 h2) (pe_fn GR h7 pE (pa_cons (pv 12) pa_nil)) (pv 4) (nomark _))
            (pw_or1 (pt_cmpR (op_neD hr.units) (pe_prp (pe_kw1 KR h7 pE (pe_join pe_str (pv 10))) C (prp_ar C) h2) (pv 3) (nomark _)))))))
          (pss_one (ps_ret pe_bl)) pss_nil)
        (pss_cons (ps_for PassesOwn.never rfl (pi_range1 (by rfl) X1.range (pa_cons pe_int pa_nil)) (pg_name (i := 5) nd rfl (Or.inl rfl))
          (pss_cons (ps_set (i := 6) nd rfl (Or.inl rfl) (pe_fn GD h2 pass0 (pa_cons (pv 11) (pa_cons (pe_callB call_len_seq (by rfl) X1.len PySem.boot_len (pa_cons (pv 10) pa_nil)) pa_nil))))
          (pss_cons (ps_set (i := 7) nd rfl (Or.inl rfl) (pe_fn GP h3 pass0 (pa_cons (pv 11) (pa_cons (pe_lst (pa_cons pe_str (pa_cons pe_str (pa_cons (pe_op op_add_str pe_str (pe_ix ix_list (pv 10) (pv 6) (fun _ _ => rfl))) (pa_cons (pe_op op_add_str (pe_ix ix_list (pv 10) (pv 6) (fun _ _ => rfl)) pe_str)
            (pa_cons pe_str (pa_cons (pe_op op_add_str (pe_callTy call_str_int (by rfl) X1.str (by decide +kernel) (pa_cons (pv 2) pa_nil)) pe_str) (pa_cons pe_str (pa_cons pe_str (pa_cons pe_str pa_nil)))))))))) pa_nil))))
          (pss_one (ps_if (pt_not (pt_val (pe_fn GA hr pass0 (pa_cons (pe_join pe_str (pe_op op_cat (pe_op op_cat (pe_slice sl_list (pv 10) po_none (po_some (pv 6))) (pe_lst (pa_cons (pv 7) pa_nil))) (pe_slice sl_list (pv 10) (po_some (pe_op op_add (pv 6) pe_int)) po_none))) (pa_cons (pv 6) pa_nil)))))
            (pss_one (ps_ret pe_bl)) pss_nil)))))
        (pss_cons (ps_set (i := 6) nd rfl (Or.inl rfl) (pe_fn GD h2 pass0 (pa_cons (pv 11) (pa_cons (pe_callB call_len_seq (by rfl) X1.len PySem.boot_len (pa_cons (pv 10) pa_nil)) pa_nil))))
        (pss_cons (ps_if (pt_not (pt_val (pe_fn GA hr pass0 (pa_cons (pe_join pe_str (pe_op op_cat (pv 10) (pe_lst (pa_cons (pe_ix ix_list (pv 10) (pv 6) (fun _ _ => rfl)) pa_nil)))) (pa_cons (pe_callB call_len_seq (by rfl) X1.len PySem.boot_len (pa_cons (pv 10) pa_nil)) pa_nil))))) (pss_one (ps_ret pe_bl)) pss_nil)
        (pss_cons (ps_if (pt_cmpR op_gt (pe_callB call_len_seq (by rfl) X1.len PySem.boot_len (pa_cons (pv 10) pa_nil)) pe_int (nomark _))
          (pss_cons (ps_set (i := 8) nd rfl (Or.inl rfl) (pe_op op_cat (pe_slice sl_list (pv 10) po_none (po_some (pe_un un_neg pe_int))) (pe_lst (pa_cons (pe_ix ix_list (pv 10) (pe_un un_neg pe_int) (fun _ _ => rfl)) (pa_cons (pe_ix ix_list (pv 10) (pe_un un_neg pe_int) (fun _ _ => rfl)) pa_nil)))))
          (pss_one (ps_if (PW.pt (pw_or (pt_not (pt_val (pe_fn GA hr pass0 (pa_cons (pe_join pe_str (pv 8)) (pa_cons (pe_op op_sub (pe_callB call_len_seq (by rfl) X1.len PySem.boot_len (pa_cons (pv 10) pa_nil)) pe_int) pa_nil)))))
              (pw_or1 (pt_cmpR (op_neD hr.units) (pe_prp (pe_fn GR h7 pE (pa_cons (pe_join pe_str (pe_slice sl_list (pv 10) po_none (po_some (pe_un un_neg pe_int)))) pa_nil)) C (prp_ar C) h2) (pe_slice sl_tup (pv 3) po_none (po_some (pe_un un_neg pe_int))) (nomark _)))))
            (pss_one (ps_ret pe_bl)) pss_nil))) pss_nil)
        (pss_cons (ps_set (i := 9) nd rfl (Or.inl rfl) (pe_lam1 (T := T) (Pt := P2) (j := 1) (k := 7) (t := fun E => tFn (spRead K) E (tCons (tFn (spPick K) E0 (tCons (tVar 11) (tCons (tLst (tCons (tC .non) (tCons (tC (.int 5)) (tCons (tVar 10) tNil)))) tNil))) tNil)) (takes_caught W 8) W.caught.2 (kp_caught W) TB2 rfl hm2 hu2 h9 (lamS_by (sc := defScope sLaw) (by decide +kernel))
          (fun A outer s H E f c' hr2 => pe_fn GR hr2 (passes_call (takes_of rfl rfl rfl rfl) (fun _ _ _ _ h => h)) (pa_cons (pe_fn GP (hr2.mono (by decide)) pass0 (pa_cons (pv 11) (pa_cons (pe_lst (pa_cons pe_non (pa_cons pe_int (pa_cons (pv 10) pa_nil)))) pa_nil))) pa_nil))))
        (pss_cons (ps_if (PW.pt (pw_or (pt_not (pt_val (pe_callB call_isA (by rfl) X1.isinst (by decide +kernel) (pa_cons (pv 9) (pa_cons (pe_glob (v := .ref (cT K)) (by rfl) gT rfl) pa_nil))))) (pw_or1 (pt_cmpR op_notN (pe_xfld (pv 9)) pe_non (nomark _))))) (pss_one (ps_ret pe_bl)) pss_nil)
        (pss_one (ps_if (pt_not (pt_val (pe_callB call_isA (by rfl) X1.isinst (by decide +kernel) (pa_cons
            (pe_lam1 (T := T) (Pt := P2) (j := 1) (k := 7) (t := fun E => tFn (spText K) E (tCons (tFn (spPick K) E0 (tCons (tVar 11) (tCons (tLst (tCons (tC .non) (tCons (tC (.int 5)) (tCons (tVar 12) tNil)))) tNil))) tNil)) (takes_caught W 8) W.caught.2 (kp_caught W) TB2 rfl hm2 hu2 h9 (lamS_by (sc := defScope sLaw) (by decide +kernel))
              (fun A outer s H E f c' hr2 => pe_fn GT (hr2.mono (by decide)) (passes_call (takes_of rfl rfl rfl rfl) (fun _ _ _ _ h => h)) (pa_cons (pe_fn GP (hr2.mono (by decide)) pass0 (pa_cons (pv 11) (pa_cons (pe_lst (pa_cons pe_non (pa_cons pe_int (pa_cons (pv 12) pa_nil)))) pa_nil))) pa_nil)))
            (pa_cons (pe_glob (v := .ref (cN K)) (by rfl) gN rfl) pa_nil))))) (pss_one (ps_ret pe_bl)) pss_nil)))))))))))))))
      (pss_one (ps_ret (pe_and (pe_cmpR (op_eqD hr.units) (pe_split (pe_fn GT h3 pE (pa_cons (pe_make (E := E0) C.mkr FI h6 (by rfl) C.glo hbI .nil pass0 (pa_cons pe_int (pa_cons (pe_lst (pa_cons (pe_tup (pa_cons pe_int (pa_cons pe_int (pa_cons (pe_un un_neg pe_int) pa_nil)))) (pa_cons (pe_tup (pa_cons pe_int (pa_cons pe_int (pa_cons (pe_un un_neg pe_int) pa_nil)))) pa_nil))) pa_nil))) pa_nil)) pe_str) (pe_lst (pa_cons pe_str (pa_cons pe_str (pa_cons pe_str pa_nil)))) (nomark _))
        (pe_one (pe_fn GA hr pass0 (pa_cons pe_str (pa_cons pe_int pa_nil)))))))), ?_⟩
    refine ⟨_, rfl, a, ns, rfl, hS, hlen, fun t l c H1 s1 ht0 hl0 hc0 TT => ?_⟩
    have notT : ∀ {H2 : Hp} {p : Addr}, Tape H2 t l c → H2 p = none → p ≠ t ∧ p ≠ l := fun {H2 p} T2 hp => by
      obtain ⟨r, m, lg, cs, e1, e2, _⟩ := T2.ex
      exact ⟨fun e => (by rw [e, e1] at hp; cases hp), fun e => (by rw [e, e2] at hp; cases hp)⟩
    refine ⟨_, rfl, a, _, rfl, .inl (s1.seq hS), _, _, rfl, _, _, rfl, rfl, _, rfl, by split <;> omega, by split <;> omega, for_range (lo := 0) (n := _) (fun i σ H2 => ∃ u0 u1 u2 u3 u4 u5 u6 u7 u8 u9 u10 u12 u13 u14 u15 : Option V, σ = [u0, u1, u2, u3, u4, u5, u6, u7, u8, u9, u10, some (.ref t), u12, u13, u14, u15] ∧ Tape H2 t l c ∧ Tabs T H2)
      ⟨_, _, _, _, _, _, _, _, _, _, _, _, _, _, _, rfl, TT, hT.ext s1⟩ ?_ ?_⟩
    · rintro i σ H2 hi ⟨u0, u1, u2, u3, u4, u5, u6, u7, u8, u9, u10, u12, u13, u14, u15, rfl, T2, hT2⟩
      -- many
      refine ⟨_, rfl, t, l, c, 5, rfl, by decide, by decide, T2, fun d H3 d0 d1 T3 b3 => ⟨_, _, rfl, rfl, ?_⟩⟩
      show gName 2 (V.int ((1 : Int) + d)) _ _ _
      generalize hn : (1 : Int) + d = n
      have n0 : 1 ≤ n := by omega
      have n1 : n ≤ 5 := by omega
      have hT3 := Tabs.but hT2 b3 T2
      -- arrows
      refine ⟨_, rfl, _, rfl, t, l, c, n, rfl, n0, n1, T3, fun p ys as H4 hp hA ok asc hlen T4 b4 => ?_⟩
      have hT4 := Tabs.but hT3 b4 T3
      have PL : Pl n as := ⟨n0, n1, ok, asc, hlen⟩
      have hyl : ys.length = as.length := hA.length
      -- plan
      refine ⟨_, rfl, _, rfl, p, ys, rfl, .inr (SqT.of hp), fun q hq => fun x dx hx hdx hne => ?_⟩
      have s5 : Same H4 (upd H4 q (.lst ys)) := Same.upd hq
      have e6 : Same (upd H4 q (.lst ys)) (upd (upd (upd H4 q (.lst ys)) dx (.own x)) x (.ins (cP K) dx [])) := (Same.upd hdx).trans (Same.upd (by rw [upd_ne (Ne.symm hne)]; exact hx))
      refine ⟨x, dx, n, q, ys, as, rfl, upd_same, n0, n1, .base (.lst (e6 _ _ upd_same)), SqL.of (e6 _ _ upd_same), hA.keep (s5.trans e6).tups, ok, asc_nodup asc, by omega, fun H7 hk hpl => ⟨rfl, ?_⟩⟩
      rw [sort_idA asc] at hpl
      have s7 : Same H4 H7 := fun b o hb => by
        have hb2 := s5 _ _ hb
        exact hk b o (ne_of_none hb2 hx) (e6 _ _ hb2)
      have hp7 := s7 _ _ hp
      have hA7 := hA.keep s7.tups
      -- lines
      refine ⟨_, rfl, n, rfl, log_small (by omega), _, _, rfl, rfl, line_small ?_, (by show 1 ≤ sizeLine; decide), fun A hA0 => ?_⟩
      · rw [show (Str.ofString (toString n)).length = 1 from nS_len (by omega) (by omega)]
        decide +kernel
      refine ⟨_, rfl, p, rfl, ⟨_, SqT.of (Same.upd hA0 _ _ hp7)⟩, fun D hD => ?_⟩
      have sA : Same H7 (upd H7 A (.lst [V.str (headS n)])) := Same.upd hA0
      have hAD : A ≠ D := ne_of_none (upd_same (H := H7)) hD
      refine lc_tup (K := K) (a := p) (xs := ys) (fun i H8 => Same (upd H7 A (.lst [V.str (headS n)])) H8 ∧ H8 D = some (.lst (((as.take i).map lineS).map V.str))) ⟨Same.upd hD, upd_same⟩ (fun i H8 _ h => SqT.of ((sA.trans h.1) _ _ hp7)) ?_ ?_
      · rintro i x2 H8 hx2 ⟨s8, hz⟩
        obtain ⟨b, hb, pb, eb, hv⟩ := Ars.get hA7 hx2
        subst eb
        obtain ⟨b1, b2, b3'⟩ := b
        have hi2 : i < as.length := (List.getElem?_eq_some_iff.mp hb).1
        have okb := ok _ (List.mem_of_getElem? hb)
        have ll := lineS_len okb n1
        obtain ⟨o1, o2, o3, o4, o5⟩ := okb
        simp only at o1 o2 o3 o4 o5
        have l1 := nS_len o1 (by omega)
        have l2 := nS_len o3 (by omega)
        have l3 := signS_len b3'
        have hv8 := (sA.trans s8) _ _ hv
        refine ⟨pb, _, rfl, SqT.of hv8, rfl, ?_⟩
        refine ⟨_, _, rfl, _, _, rfl, _, _, rfl, rfl, rfl, ?_⟩
        refine ⟨_, rfl, b1, rfl, log_small (by omega), ?_⟩
        refine ⟨_, rfl, rfl, _, rfl, ?_⟩
        have stp : (as.take (i + 1)).map lineS = (as.take i).map lineS ++ [lineS (b1, b2, b3')] := by
          rw [List.take_succ, hb, List.map_append]
          rfl
        have hlt : (((as.take i).map lineS).map V.str).length ≤ 1000 := by rw [List.length_map, List.length_map, List.length_take]; omega
        have len2 : ∀ z : Str, z = signS b3' → (nS b1).length + z.length ≤ sizeLine ∧ (nS b1 ++ z).length + (nS b2).length ≤ sizeLine := fun z hz => by
          subst hz
          rw [app_len, l1, l2]
          exact ⟨line_small (by omega), line_small (by omega)⟩
        have done : ∀ z : Str, z = signS b3' → Same (upd H7 A (.lst [V.str (headS n)])) (upd H8 D (.lst (((as.take i).map lineS).map V.str ++ [V.str (nS b1 ++ z ++ nS b2)]))) ∧ (upd H8 D (.lst (((as.take i).map lineS).map V.str ++ [V.str (nS b1 ++ z ++ nS b2)]))) D = some (.lst (((as.take (i + 1)).map lineS).map V.str)) := fun z hz2 => by
          subst hz2
          refine ⟨s8.put hD, ?_⟩
          rw [upd_same, stp, List.map_append]
          rfl
        by_cases h3 : b3' = 1
        · have e : decide (V.int b3' = V.int 1) = true := by simp [h3]
          have es : Str.ofString " helps " = signS b3' := by unfold signS; rw [if_pos h3]
          rw [e]
          exact iteT ⟨_, _, rfl, rfl, (len2 _ es).1, _, rfl, b2, rfl, log_small (by omega), _, _, rfl, rfl, (len2 _ es).2, _, hz, small1000 hlt, done _ es⟩
        · have e : decide (V.int b3' = V.int 1) = false := by simp [h3]
          have es : Str.ofString " hinders " = signS b3' := by unfold signS; rw [if_neg h3]
          rw [e]
          exact iteF ⟨_, _, rfl, rfl, (len2 _ es).1, _, rfl, b2, rfl, log_small (by omega), _, _, rfl, rfl, (len2 _ es).2, _, hz, small1000 hlt, done _ es⟩
      · rintro H8 ⟨s8, hz⟩
        rw [hyl, List.take_of_length_le (Nat.le_refl _)] at hz
        have hA8 := s8 _ _ (upd_same (H := H7) (a := A) (o := .lst [V.str (headS n)]))
        refine ⟨A, D, _, _, rfl, rfl, hA8, hz, line_small (by rw [List.length_singleton, List.length_map, List.length_map]; omega), fun M hM => ?_⟩
        have eM : [V.str (headS n)] ++ (as.map lineS).map V.str = (linesS n as).map V.str := rfl
        have s78 : Same H7 H8 := sA.trans s8
        have s9 : Same H7 (upd H8 M (.lst ([V.str (headS n)] ++ (as.map lineS).map V.str))) := s78.put (s78.free hM)
        have s49 := s7.trans s9
        have T9 := s49.tape T4
        have nM := notT (s7.tape T4) (s78.free hM)
        have J9 : LJ T t l c M p n as (upd H8 M (.lst ([V.str (headS n)] ++ (as.map lineS).map V.str))) := ⟨T9, hT4.ext s49, by rw [upd_same, eM], nM.1, nM.2, ys, s49 _ _ hp, hA.keep s49.tups⟩
        have pl9 := hpl.same s9
        generalize (upd H8 M (.lst ([V.str (headS n)] ++ (as.map lineS).map V.str))) = H9 at J9 pl9
        clear s9 s49 T9
        -- text
        refine ⟨_, rfl, .ref x, rfl, .inl ⟨x, n, as, rfl, pl9, n0, n1, ok, by omega, fun H10 s10 => ?_⟩⟩
        have J10 := J9.same s10
        have pl10 := pl9.same s10
        -- the tests
        refine ⟨_, rfl, ⟨_, rfl⟩, textS n as, _, rfl, rfl, by decide, PL.ls.small.2, fun q1 hq1 => ?_⟩
        have s11 : Same H10 (upd H10 q1 (.lst ((Txt.split (textS n as) (Str.ofString "\n")).map V.str))) := Same.upd hq1
        have esp : Txt.split (textS n as) (Str.ofString "\n") = linesS n as := PL.ls.split
        rw [esp] at s11 ⊢
        have J11 := J10.same s11
        have pl11 := pl10.same s11
        refine ⟨_, rfl, .list ((linesS n as).map .str), .list ((linesS n as).map .str), dp_strs (SqL.of upd_same), dp_strs (SqL.of J11.ln), shaped_strs (lay_lines PL), shaped_strs (lay_lines PL), _, rfl, ?_⟩
        rw [eqv_strs, decide_eq_true rfl]
        refine iteF ?_
        refine ⟨_, rfl, .ref x, rfl, .inl ⟨x, n, as, rfl, pl11, n0, n1, ok, by omega, fun H12 s12 => ⟨_, rfl, rfl, _, rfl, ?_⟩⟩⟩
        have et : (!decide (V.str (textS n as) = V.str (textS n as))) = false := by simp
        rw [et]
        refine iteF ?_
        have J12 := J11.same s12
        have pl12 := pl11.same s12
        refine ⟨_, rfl, ?_⟩
        dsimp only [tNil]
        refine read_good PL fun x2 H13 s13 p13 => ?_
        have J13 := J12.same s13
        have pl13 := pl12.same s13
        obtain ⟨dx2, t2', ys2, e21, e22, e23⟩ := id p13
        obtain ⟨dx1, t1', ys1, e11, e12, e13⟩ := id pl13
        refine ⟨_, rfl, x2, x, dx2, dx1, _, _, rfl, rfl, e21, e11, x2, x, n, n, as, as, rfl, p13, pl13, fun H14 s14 => ⟨_, rfl, _, rfl, ?_⟩⟩
        have ec : ((decide (n = n) && decide (as = as)) != true) = false := by simp
        rw [ec]
        refine iteF ?_
        have J14 := J13.same s14
        refine ⟨⟨_, rfl⟩, _, rfl, _, M, linesS n as, rfl, rfl, .inl (SqL.of J14.ln), PL.ls.small.1, ?_⟩
        refine read_good PL fun x3 H15 s15 p15 => ?_
        have J15 := J14.same s15
        obtain ⟨dx3, t3', ys3, e31, e32, e33⟩ := id p15
        refine ⟨x3, dx3, _, rfl, e31, x3, dx3, _, .ref t3', rfl, e31, rfl, ?_⟩
        obtain ⟨ys4, e41, e42⟩ := J15.ar
        refine ⟨_, rfl, .tuple (as.map arD), .tuple (as.map arD), .tup (SqT.of e32) e33.dp, .tup (SqT.of e41) e42.dp, shaped_ars as, shaped_ars as, _, rfl, ?_⟩
        rw [eqv_ars, decide_eq_true rfl]
        refine iteF ?_
        -- five odd texts
        clear s15 p15 J14 s14 e11 e12 e13 e21 e22 e23 pl13 p13 s13 J13 pl12 J12 s12 pl11 J11 s11 pl10 J10 s10 pl9 J9 e31 e32 e33 e41 e42
        have hL : (linesS n as).length = as.length + 1 := linesS_len n as
        refine ⟨5, rfl, by decide, by decide, for_range (lo := 0) (n := 5) (fun j σ H2 => ∃ u5 u6 u7 : Option V, σ = [u0, some (.int (0 + i)), some (.int n), some (.ref p), some (.ref x), u5, u6, u7, u8, u9, some (.ref M), some (.ref t), some (.str (textS n as)), u13, u14, u15] ∧ LJ T t l c M p n as H2) ⟨_, _, _, rfl, J15⟩ ?_ ?_⟩
        · rintro j σ H16 hj ⟨u5, u6, u7, rfl, J16⟩
          refine ⟨_, rfl, _, rfl, M, _, rfl, .inl (SqL.of J16.ln), t, l, c, _, rfl, by rw [List.length_map, hL]; omega, by rw [List.length_map, hL]; omega, J16.tp, fun sp' H17 d0 d1 T17 b17 => ?_⟩
          rw [List.length_map, hL] at d1
          obtain ⟨s, rfl⟩ := Int.eq_ofNat_of_zero_le d0
          have J17 := J16.but b17 T17
          obtain ⟨lx, hlx⟩ : ∃ lx, (linesS n as)[s]? = some lx := ⟨_, List.getElem?_eq_getElem (by omega)⟩
          have hat : atI ((linesS n as).map V.str) (s : Int) = some (.str lx) := atI_int (by omega) (by rw [show ((s : Nat) : Int).toNat = s by omega, List.getElem?_map, hlx]; rfl)
          have hlx20 := (linesS_mem PL lx (List.mem_of_getElem? hlx)).2
          have sp1 : (Str.ofString " ").length = 1 := by decide +kernel
          refine ⟨_, rfl, ?_⟩
          refine ⟨_, rfl, _, rfl, M, _, (s : Int), .str lx, rfl, rfl, SqL.of J17.ln, hat, _, _, rfl, rfl, line_small (by rw [sp1]; omega), ?_⟩
          refine ⟨_, rfl, _, rfl, M, _, (s : Int), .str lx, rfl, rfl, SqL.of J17.ln, hat, _, _, rfl, rfl, line_small (by rw [sp1]; omega), ?_⟩
          refine ⟨_, rfl, n, rfl, log_small (by omega), _, _, rfl, rfl, line_small ?_, ?_⟩
          · rw [show (Str.ofString (toString n)).length = 1 from nS_len (by omega) (by omega)]
            decide +kernel
          refine ⟨(by show 9 ≤ sizeLine; decide), fun q hq => ?_⟩
          have nq := notT T17 hq
          have sq : Same H17 (upd H17 q (.lst ((odds n lx).map V.str))) := Same.upd hq
          refine ⟨t, l, c, q, (odds n lx).map V.str, rfl, SqL.of upd_same, by simp [odds], by rw [List.length_map]; show 9 < 1073741824; decide, nq.1, nq.2, sq.tape T17, fun io vo H18 hvo T18 b18 => ?_⟩
          have J18 := (J17.same sq).but b18 T18
          obtain ⟨o, ho, rfl⟩ := map_get hvo
          have hmo : o ∈ odds n lx := List.mem_of_getElem? ho
          obtain ⟨hLs, hRB⟩ := odd_at PL hlx hmo
          refine ⟨⟨_, rfl⟩, ?_⟩
          refine ⟨_, rfl, _, rfl, s, rfl, M, _, rfl, SqL.of J18.ln, fun r1 hr1 => ?_⟩
          have J19 := J18.same (Same.upd (o := .lst (cutV ((linesS n as).map V.str) none (some (s : Int)))) hr1)
          refine ⟨_, rfl, (by show 1 ≤ sizeLine; decide), fun r2 hr2 => ?_⟩
          have s20 := Same.upd (o := .lst [V.str o]) hr2
          have J20 := J19.same s20
          refine ⟨r1, r2, _, _, rfl, rfl, s20 _ _ upd_same, upd_same, line_small (by have := cutV_length ((linesS n as).map V.str) none (some (s : Int)); rw [List.length_map, hL] at this; rw [List.length_singleton]; omega), fun r3 hr3 => ?_⟩
          have J21 := J20.same (Same.upd (o := .lst (cutV ((linesS n as).map V.str) none (some (s : Int)) ++ [V.str o])) hr3)
          refine ⟨_, rfl, _, rfl, _, _, rfl, rfl, (s : Int) + 1, rfl, M, _, rfl, SqL.of J21.ln, fun r4 hr4 => ?_⟩
          have s22 := Same.upd (o := .lst (cutV ((linesS n as).map V.str) (some ((s : Int) + 1)) none)) hr4
          have J22 := J21.same s22
          refine ⟨r3, r4, _, _, rfl, rfl, s22 _ _ upd_same, upd_same, line_small (by
            have h1 := cutV_length ((linesS n as).map V.str) none (some (s : Int))
            have h2 := cutV_length ((linesS n as).map V.str) (some ((s : Int) + 1)) none
            rw [List.length_map, hL] at h1 h2
            rw [List.length_append, List.length_singleton]
            omega), fun r5 hr5 => ?_⟩
          have e5 : cutV ((linesS n as).map V.str) none (some (s : Int)) ++ [V.str o] ++ cutV ((linesS n as).map V.str) (some ((s : Int) + 1)) none = ((linesS n as).take s ++ [o] ++ (linesS n as).drop (s + 1)).map V.str := by
            have ei : (s : Int) + 1 = ((s + 1 : Nat) : Int) := by omega
            rw [cut_to (by rw [List.length_map, hL]; omega), ei, cut_from (by rw [List.length_map, hL]; omega), List.map_append, List.map_append, List.map_take, List.map_drop]
            rfl
          have s23 := Same.upd (o := .lst (cutV ((linesS n as).map V.str) none (some (s : Int)) ++ [V.str o] ++ cutV ((linesS n as).map V.str) (some ((s : Int) + 1)) none)) hr5
          have J23 := J22.same s23
          refine ⟨_, r5, _, rfl, rfl, .inl (SqL.of (by rw [upd_same, e5])), hLs.small.1, _, rfl, _, _, rfl, hRB, J23.tb, fun H24 e24 T24 => ⟨_, rfl, iteF ?_⟩⟩
          exact ⟨_, _, _, rfl, J23.ext e24 T24⟩
        · rintro σ H16 ⟨u5, u6, u7, rfl, J16⟩
          -- a line told again
          refine ⟨_, rfl, _, rfl, M, _, rfl, .inl (SqL.of J16.ln), t, l, c, _, rfl, by rw [List.length_map, hL]; omega, by rw [List.length_map, hL]; omega, J16.tp, fun sp' H17 d0 d1 T17 b17 => ?_⟩
          rw [List.length_map, hL] at d1
          obtain ⟨s, rfl⟩ := Int.eq_ofNat_of_zero_le d0
          have J17 := J16.but b17 T17
          obtain ⟨lx, hlx⟩ : ∃ lx, (linesS n as)[s]? = some lx := ⟨_, List.getElem?_eq_getElem (by omega)⟩
          have hat : atI ((linesS n as).map V.str) (s : Int) = some (.str lx) := atI_int (by omega) (by rw [show ((s : Nat) : Int).toNat = s by omega, List.getElem?_map, hlx]; rfl)
          obtain ⟨hLs, hRB⟩ := again_at PL (List.mem_of_getElem? hlx)
          refine ⟨⟨_, rfl⟩, ?_⟩
          refine ⟨_, rfl, _, rfl, _, rfl, M, _, (s : Int), .str lx, rfl, rfl, SqL.of J17.ln, hat, (by show 1 ≤ sizeLine; decide), fun r1 hr1 => ?_⟩
          have s18 := Same.upd (o := .lst [V.str lx]) hr1
          have J18 := J17.same s18
          refine ⟨M, r1, _, _, rfl, rfl, J18.ln, upd_same, line_small (by rw [List.length_map, hL, List.length_singleton]; omega), fun r2 hr2 => ?_⟩
          have J19 := J18.same (Same.upd (o := .lst ((linesS n as).map V.str ++ [V.str lx])) hr2)
          refine ⟨_, r2, linesS n as ++ [lx], rfl, rfl, .inl (SqL.of (by rw [upd_same, List.map_append]; rfl)), hLs.small.1, _, rfl, M, _, rfl, .inl (SqL.of J19.ln), _, _, rfl, by rw [List.length_map]; exact hRB, J19.tb, fun H20 e20 T20 => ⟨_, rfl, iteF ?_⟩⟩
          have J20 := J19.ext e20 T20
          clear J19 J18 J17 J16
          -- the last two crossed
          dsimp only [tNext]
          refine seq_alt (fun σ' H' => ∃ u6 u8 : Option V, σ' = [u0, some (.int (0 + i)), some (.int n), some (.ref p), some (.ref x), u5, u6, u7, u8, u9, some (.ref M), some (.ref t), some (.str (textS n as)), u13, u14, u15] ∧ LJ T t l c M p n as H') ?_ ?_
          · intro G hG
            refine ⟨_, rfl, M, _, rfl, .inl (SqL.of J20.ln), _, _, rfl, rfl, _, rfl, ite2 (fun hc => ?_) (fun _ => hG _ _ ⟨_, _, rfl, J20⟩)⟩
            have hc := of_decide_eq_true hc
            rw [List.length_map, hL] at hc
            obtain ⟨pre, xx, yy, has⟩ := two_last (as := as) (by omega)
            subst has
            have hlp := linesS_len n pre
            have hl2 := lines_snoc2 n pre xx yy
            have hl1 := lines_snoc1 n pre xx yy
            have PL1 : Pl n (pre ++ [xx]) := (show Pl n ((pre ++ [xx]) ++ [yy]) by rw [List.append_assoc]; exact PL).front
            obtain ⟨hLs, hRB⟩ := crossed_at PL
            have lm : ((linesS n (pre ++ [xx, yy])).map V.str).length = pre.length + 3 := by rw [List.length_map, hL, List.length_append]; rfl
            have em2 : cutV ((linesS n (pre ++ [xx, yy])).map V.str) none (some (-2)) = (linesS n pre).map V.str := by
              refine (cut_neg (k := 2) (by decide) (by omega)).trans ?_
              rw [lm, hl2, List.map_append, List.take_left' (by rw [List.length_map, hlp]; omega)]
            have em1 : cutV ((linesS n (pre ++ [xx, yy])).map V.str) none (some (-1)) = (linesS n (pre ++ [xx])).map V.str := by
              refine (cut_neg (k := 1) (by decide) (by omega)).trans ?_
              rw [lm, hl1, List.map_append, List.take_left' (by rw [List.length_map, linesS_len, List.length_append, List.length_singleton]; omega)]
            have a1 : atI ((linesS n (pre ++ [xx, yy])).map V.str) (-1) = some (.str (lineS yy)) := by
              refine atI_neg (k := 1) (by decide) (by omega) ?_
              rw [lm, hl1, List.map_append, List.getElem?_append_right (by rw [List.length_map, linesS_len, List.length_append, List.length_singleton]; omega), List.length_map, linesS_len, List.length_append, List.length_singleton, show pre.length + 3 - 1 - (pre.length + 1 + 1) = 0 by omega]
              rfl
            have a2 : atI ((linesS n (pre ++ [xx, yy])).map V.str) (-2) = some (.str (lineS xx)) := by
              refine atI_neg (k := 2) (by decide) (by omega) ?_
              rw [lm, hl2, List.map_append, List.getElem?_append_right (by rw [List.length_map, hlp]; omega), List.length_map, hlp, show pre.length + 3 - 2 - (pre.length + 1) = 0 by omega]
              rfl
            refine ⟨_, rfl, 2, rfl, -2, rfl, M, _, rfl, SqL.of J20.ln, fun r1 hr1 => ?_⟩
            have J21 := J20.same (Same.upd (o := .lst (cutV ((linesS n (pre ++ [xx, yy])).map V.str) none (some (-2)))) hr1)
            refine ⟨_, rfl, 1, rfl, M, _, -1, _, rfl, rfl, SqL.of J21.ln, a1, _, rfl, 2, rfl, M, _, -2, _, rfl, rfl, SqL.of J21.ln, a2, (by show 2 ≤ sizeLine; decide), fun r2 hr2 => ?_⟩
            have s22 := Same.upd (o := .lst [V.str (lineS yy), V.str (lineS xx)]) hr2
            have J22 := J21.same s22
            refine ⟨r1, r2, _, _, rfl, rfl, s22 _ _ upd_same, upd_same, line_small (by rw [em2, List.length_map, hlp]; show pre.length + 1 + 2 ≤ 1000; rw [List.length_append] at hlen; omega), fun r3 hr3 => ?_⟩
            have J23 := J22.same (Same.upd (o := .lst (cutV ((linesS n (pre ++ [xx, yy])).map V.str) none (some (-2)) ++ [V.str (lineS yy), V.str (lineS xx)])) hr3)
            refine ⟨⟨_, rfl⟩, _, rfl, _, r3, linesS n pre ++ [lineS yy, lineS xx], rfl, rfl, .inl (SqL.of (by rw [upd_same, em2, List.map_append]; rfl)), hLs.small.1, ?_⟩
            refine ⟨_, rfl, M, _, rfl, .inl (SqL.of J23.ln), _, _, rfl, rfl, _, _, rfl, ?_, J23.tb, fun H24 e24 T24 => ⟨_, rfl, iteF ?_⟩⟩
            · rw [lm, show ((pre.length + 3 : Nat) : Int) - 1 = 1 + ((pre.length + 1 : Nat) : Int) by omega]
              exact hRB
            have J24 := J23.ext e24 T24
            refine ⟨⟨_, rfl⟩, _, rfl, 1, rfl, -1, rfl, M, _, rfl, SqL.of J24.ln, fun r4 hr4 => ?_⟩
            have J25 := J24.same (Same.upd (o := .lst (cutV ((linesS n (pre ++ [xx, yy])).map V.str) none (some (-1)))) hr4)
            refine ⟨_, r4, linesS n (pre ++ [xx]), rfl, rfl, .inl (SqL.of (by rw [upd_same, em1])), PL1.ls.small.1, ?_⟩
            dsimp only [tNil]
            refine read_good PL1 fun x4 H26 s26 p26 => ?_
            have J26 := J25.same s26
            obtain ⟨dx4, t4', ys4, e41, e42, e43⟩ := id p26
            obtain ⟨ys5, e51, e52⟩ := J26.ar
            have hy5 : ys5.length = pre.length + 2 := by rw [e52.length, List.length_append]; rfl
            have em5 : cutV ys5 none (some (-1)) = ys5.take (pre.length + 1) := by
              refine (cut_neg (k := 1) (by decide) (by omega)).trans ?_
              rw [hy5]
              rfl
            refine ⟨x4, dx4, _, rfl, e41, x4, dx4, _, .ref t4', rfl, e41, rfl, _, rfl, 1, rfl, -1, rfl, p, ys5, rfl, SqT.of e51, ?_, fun r5 hr5 => ?_⟩
            · intro hw
              have h2 := hw.2
              have e : HT.sIx ys5.length ys5.length (some (-1)) = (-1 + (ys5.length : Int)).toNat := rfl
              rw [e] at h2
              omega
            have s27 := Same.upd (o := .tup (cutV ys5 none (some (-1)))) hr5
            have hA5 : Ars H26 (ys5.take (pre.length + 1)) (pre ++ [xx]) := by
              have h := paired_take (pre.length + 1) e52
              have e : (pre ++ [xx, yy]).take (pre.length + 1) = pre ++ [xx] := by
                rw [show pre ++ [xx, yy] = (pre ++ [xx]) ++ [yy] by simp, List.take_left' (by simp)]
              rw [e] at h
              exact h
            have hd5 := Ars.dp (K := K) (hA5.keep s27.tups)
            rw [← em5] at hd5
            refine ⟨.tuple ((pre ++ [xx]).map arD), .tuple ((pre ++ [xx]).map arD), .tup (SqT.of (s27 _ _ e42)) (e43.keep s27.tups).dp, .tup (SqT.of upd_same) hd5, shaped_ars _, shaped_ars _, _, rfl, ?_⟩
            rw [eqv_ars, decide_eq_true rfl]
            exact iteF (hG _ _ ⟨_, _, rfl, J26.same s27⟩)
          · rintro σ' H21 ⟨u6, u8, rfl, J21⟩
            -- no text at all
            refine ⟨J21.tb, fun H22 e22 T22 => ?_⟩
            have J22 := J21.ext e22 T22
            refine ⟨_, rfl, _, rfl, (by show 3 ≤ sizeLine; decide), fun q hq => ?_⟩
            have nq := notT J22.tp hq
            have sq := Same.upd (o := .lst [V.non, V.int 5, V.ref M]) hq
            have J23 := J22.same sq
            refine ⟨t, l, c, q, _, rfl, SqL.of upd_same, by simp, by show 3 < 1073741824; decide, nq.1, nq.2, J23.tp, fun io vo H24 hvo T24 b24 => ?_⟩
            have J24 := J23.but b24 T24
            dsimp only [tNil]
            have bad : ∃ ty, TyX K H24 vo ty ∧ PySem.W.kitOne K ty (.type "str") = some false := by
              match io, hvo with
              | 0, hvo => rw [← Option.some.inj hvo]; exact ⟨_, .base .non, by with_unfolding_all rfl⟩
              | 1, hvo => rw [← Option.some.inj hvo]; exact ⟨_, .base (.int 5), by with_unfolding_all rfl⟩
              | 2, hvo => rw [← Option.some.inj hvo]; exact ⟨_, .base (.lst J24.ln), by with_unfolding_all rfl⟩
              | io + 3, hvo => simp at hvo
            obtain ⟨ty, hty, hkit⟩ := bad
            refine ⟨vo, rfl, .inl ⟨ty, hty, hkit, fun dd H25 s25 hd => ?_⟩⟩
            refine ⟨true, W.exT, fun _ ex hex => ?_, fun z => nomatch z⟩
            have J25 := J24.same s25
            have s26 := Same.upd (o := ExV (.ref (cT K)) (some dd) ex) hex
            have J26 := J25.same s26
            have hd6 := s26 _ _ hd
            refine ⟨_, rfl, .inl ⟨ex, cT K, some dd, _, .ref (cT K), _, true, rfl, .own _, upd_same, .inr ⟨dd, rfl, hd6⟩, W.xcT, kit_same, _, rfl, iteF ?_⟩⟩
            refine ⟨_, rfl, ex, cT K, dd, _, .non, rfl, upd_same, hd6, W.xcT, W.noI, rfl, rfl, _, rfl, iteF ?_⟩
            -- no plan at all
            refine ⟨J26.tb, fun H27 e27 T27 => ?_⟩
            have J27 := J26.ext e27 T27
            refine ⟨_, rfl, _, rfl, (by show 3 ≤ sizeLine; decide), fun q2 hq2 => ?_⟩
            have nq2 := notT J27.tp hq2
            have sq2 := Same.upd (o := .lst [V.non, V.int 5, V.str (textS n as)]) hq2
            have J28 := J27.same sq2
            refine ⟨t, l, c, q2, _, rfl, SqL.of upd_same, by simp, by show 3 < 1073741824; decide, nq2.1, nq2.2, J28.tp, fun io vo H29 hvo T29 b29 => ?_⟩
            have J29 := J28.but b29 T29
            dsimp only [tNil]
            have bad : ∃ ty, TyX K H29 vo ty ∧ PySem.W.kitOne K ty (.ref (cP K)) = some false := by
              match io, hvo with
              | 0, hvo => rw [← Option.some.inj hvo]; exact ⟨_, .base .non, C.nNone⟩
              | 1, hvo => rw [← Option.some.inj hvo]; exact ⟨_, .base (.int 5), C.nInt⟩
              | 2, hvo => rw [← Option.some.inj hvo]; exact ⟨_, .base (.str _), C.nStr⟩
              | io + 3, hvo => simp at hvo
            obtain ⟨ty, hty, hkit⟩ := bad
            refine ⟨vo, rfl, .inr ⟨ty, hty, hkit, fun dd H30 s30 hd => ?_⟩⟩
            refine ⟨true, W.exN, fun _ ex hex => ?_, fun z => nomatch z⟩
            have J30 := J29.same s30
            have s31 := Same.upd (o := ExV (.ref (cN K)) (some dd) ex) hex
            have J31 := J30.same s31
            have hd7 := s31 _ _ hd
            refine .inl ⟨ex, cN K, some dd, _, .ref (cN K), _, true, rfl, .own _, upd_same, .inr ⟨dd, rfl, hd7⟩, W.xcN, kit_same, _, rfl, iteF ?_⟩
            exact ⟨_, _, _, _, _, _, _, _, _, _, _, _, _, _, _, rfl, J31.tp, J31.tb⟩
    · rintro σ H2 ⟨u0, u1, u2, u3, u4, u5, u6, u7, u8, u9, u10, u12, u13, u14, u15, rfl, T2, hT2⟩
      -- the told plan
      refine ⟨1, rfl, by show 3 ≤ sizeLine; decide, fun p1 hp1 => ⟨1, rfl, by show 3 ≤ sizeLine; decide, fun p2 hp2 => ⟨by show 2 ≤ sizeLine; decide, fun q hq => fun x dx hx hdx hne => ?_⟩⟩⟩
      have e1 : Same H2 (upd H2 p1 (.tup [V.int 1, V.int 0, V.int (-1)])) := Same.upd hp1
      have e2 : Same (upd H2 p1 (.tup [V.int 1, V.int 0, V.int (-1)])) (upd (upd H2 p1 (.tup [V.int 1, V.int 0, V.int (-1)])) p2 (.tup [V.int 0, V.int 1, V.int (-1)])) := Same.upd hp2
      have e3 := Same.upd (o := .lst [V.ref p1, V.ref p2]) hq
      have e4 : Same _ (upd (upd (upd (upd (upd H2 p1 (.tup [V.int 1, V.int 0, V.int (-1)])) p2 (.tup [V.int 0, V.int 1, V.int (-1)])) q (.lst [V.ref p1, V.ref p2])) dx (.own x)) x (.ins (cP K) dx [])) := (Same.upd hdx).trans (Same.upd (by rw [upd_ne (Ne.symm hne)]; exact hx))
      refine ⟨x, dx, 2, q, [V.ref p1, V.ref p2], [(1, 0, -1), (0, 1, -1)], rfl, upd_same, by decide, by decide, .base (.lst (e4 _ _ upd_same)), SqL.of (e4 _ _ upd_same),
        .cons ⟨p1, rfl, e4 _ _ (e3 _ _ (e2 _ _ upd_same))⟩ (.cons ⟨p2, rfl, e4 _ _ (e3 _ _ upd_same)⟩ .nil), by unfold okA; decide, by decide, by decide, fun H7 hk hpl => ⟨rfl, ?_⟩⟩
      rw [told_sort] at hpl
      have s7 : Same H2 H7 := fun b o hb => by
        have hb2 := e3 _ _ (e2 _ _ (e1 _ _ hb))
        exact hk b o (ne_of_none hb2 hx) (e4 _ _ hb2)
      dsimp only [tNil]
      refine ⟨_, rfl, .inl ⟨x, 2, _, rfl, hpl, by decide, by decide, told_plan.ok, by decide, fun H8 s8 => ?_⟩⟩
      refine ⟨⟨_, rfl⟩, _, _, rfl, rfl, by decide, told_plan.ls.small.2, fun r1 hr1 => ?_⟩
      have s9 := Same.upd (o := .lst ((Txt.split (textS 2 [(0, 1, -1), (1, 0, -1)]) (Str.ofString "\n")).map V.str)) hr1
      refine ⟨by show 3 ≤ sizeLine; decide, fun r2 hr2 => ?_⟩
      have s10 := Same.upd (o := .lst [V.str "switches 2", V.str "0 hinders 1", V.str "1 hinders 0"]) hr2
      have esp : Txt.split (textS 2 [(0, 1, -1), (1, 0, -1)]) (Str.ofString "\n") = linesS 2 [(0, 1, -1), (1, 0, -1)] := told_plan.ls.split
      have h1 := s10 _ _ (upd_same (H := H8) (a := r1) (o := .lst ((Txt.split (textS 2 [(0, 1, -1), (1, 0, -1)]) (Str.ofString "\n")).map V.str)))
      have lay := lay_lines told_plan
      refine ⟨.list ((linesS 2 [(0, 1, -1), (1, 0, -1)]).map .str), .list ((linesS 2 [(0, 1, -1), (1, 0, -1)]).map .str), ?_, ?_, shaped_strs lay, shaped_strs lay, ?_⟩
      · exact dp_strs (SqL.of (h1.trans (by rw [esp])))
      · exact dp_strs (SqL.of (by rw [told_lines]; exact upd_same))
      · refine ⟨_, rfl, ?_⟩
        rw [eqv_strs, decide_eq_true rfl]
        refine iteT ?_
        exact ⟨_, _, rfl, empty_at, ((hT2.ext s7).ext (s8.trans (s9.trans s10))), fun H' e T => k _⟩
end
end K3
set_option maxHeartbeats 4000000
/-! H1: a Hook for programs with exception classes by super, properties, defs that make lambdas. -/
namespace HX
open PySem PySem.Spec PyProof.Rows L2 PySem.EX He
open PySem.W (findIn nsIn subIn typeIn keepIn clsIn mroIn ks_superIn specialIn takesIn recIn codeIn hasDictIn isFn)
/-! ### addresses -/
def codeAt (K : PySem.W.Frag) (f : Addr) : Addr := match K.lookup f with
  | some ⟨_, _, .func fd, _⟩ => (match fd.code with
    | .ref a => a
    | _ => 0)
  | _ => 0
def cellAt (K : PySem.W.Frag) (f : Addr) : Addr := match K.lookup f with
  | some ⟨_, _, .func fd, _⟩ => (match fd.closure with
    | [(_, c)] => c
    | _ => 0)
  | _ => 0
def tabAt (K : PySem.W.Frag) (c : Addr) : Addr := match K.lookup c with
  | some ⟨_, _, .fields vs, _⟩ => (match (vs[11]? : Option Value) with
    | some (Value.ref p) => p
    | _ => 0)
  | _ => 0
def getterAt (K : PySem.W.Frag) (p : Addr) : Addr := match recIn K p "property" with
  | some (.ref g :: _) => g
  | _ => 0
/-! ### an exception class -/
def excB (K : PySem.W.Frag) (C : Addr) : Bool := match K.lookup C with
  | some ⟨.type "type", _, .cls cd, sl⟩ => (match cd.mro, sl.toList with
    | .ref C' :: bm, [_, _, _, _, some (.builtin n), _] => C' == C && (n == "ValueError.__new__" && (!cd.hasDel && (cd.hasDict && PySem.HandSPX.refsVE bm)))
    | _, _ => false)
  | _ => false
theorem excB_ok {K : PySem.W.Frag} {C : Addr} (q : excB K C = true) : ∃ nm q N bs bm sn sub ab col dd k0 k1 k2 k3 k5, K.lookup C = some (excClassObj nm q C N bs bm true sn sub ab col dd k0 k1 k2 k3 k5 "ValueError.__new__") ∧ PySem.HandSPX.refsVE bm = true := by
  unfold excB at q
  split at q
  · rename_i dd cd sl ho
    split at q
    · rename_i C' bm k0 k1 k2 k3 n k5 hm hs
      obtain ⟨q1, q⟩ := ba q
      obtain ⟨q2, q⟩ := ba q
      obtain ⟨q3, q⟩ := ba q
      obtain ⟨q4, q5⟩ := ba q
      have e1 : C' = C := beq_iff_eq.mp q1
      have e2 : n = "ValueError.__new__" := beq_iff_eq.mp q2
      have e3 : cd.hasDel = false := by simpa using q3
      obtain ⟨nm, bs, mro, ns, qn, hd, sn, sub, ab, col, del⟩ := cd
      dsimp only at hm e3 q4
      subst hm e3 q4 e1 e2
      have hsl : sl = #[k0, k1, k2, k3, some (.builtin "ValueError.__new__"), k5] := by
        obtain ⟨l⟩ := sl
        simp only at hs
        rw [hs]
      subst hsl
      exact ⟨_, _, _, _, _, _, _, _, _, _, _, _, _, _, _, ho, q5⟩
    · cases q
  · cases q
/-- a function's data but its closure and defaults -/
abbrev FnY : Type := Option (Str × Str × Arguments × FuncBody × Scope × Addr × Addr)
def fy (nm q : Str) (p : Arguments) (b : List Stmt) (s : Scope) : FnY := some (nm, q, p, .stmts b, s, mainGlobals, builtinsNs)
def fnY (K : PySem.W.Frag) (f : Addr) : FnY := match K.lookup f with
  | some ⟨_, _, .func fd, _⟩ => some (fd.name, fd.qualname, fd.params, fd.body, fd.scope, fd.globals, fd.builtins)
  | _ => none
def superB (K : PySem.W.Frag) (f D : Addr) (q file : Str) : Bool := match K.lookup f with
  | some ⟨_, _, .func fd, _⟩ => (match fd.closure, fd.code, fd.defaults with
    | [(x, c)], .ref cda, .none => decide (x = "__class__") && (codeIn K (.ref cda) q && ((match K.lookup c with
        | some ⟨_, _, .cell (some (.ref d)), _⟩ => decide (d = D)
        | _ => false) && (match K.lookup cda with
        | some ⟨_, _, .fields vs, _⟩ => (match (vs[2]? : Option Value) with
          | some (Value.str y _) => decide (y = file)
          | _ => false)
        | _ => false)))
    | _, _, _ => false)
  | _ => false
theorem superB_ok {K : PySem.W.Frag} {f D : Addr} {q file : Str} {p : Arguments} {b : List Stmt} {s : Scope} (e : fnY K f = fy "__init__" q p b s) (h : superB K f D q file = true) :
    ∃ cc cda, (∃ (oc : Value) (od : Option Addr) (kV doc pm : Value) (an : Option Addr) (ct : Value) (osl : Array (Option Value)), K.lookup f = some ⟨oc, od, .func (PySem.W.ksFn "__init__" q p b s .none kV doc pm an (.ref cda) ct cc), osl⟩) ∧ codeIn K (.ref cda) q = true ∧
      (∃ (ccl : Value) (cdd : Option Addr) (vs : Array Value) (ccs : Array (Option Value)) (tf : Tok), K.lookup cda = some ⟨ccl, cdd, .fields vs, ccs⟩ ∧ vs[2]? = some (.str file tf)) ∧
      ∃ (cl : Value) (cld : Option Addr) (csl : Array (Option Value)), K.lookup cc = some ⟨cl, cld, .cell (some (.ref D)), csl⟩ := by
  unfold fnY at e
  unfold superB at h
  cases hq : K.lookup f with
  | none => rw [hq] at e; cases e
  | some o =>
    obtain ⟨oc, od, dt, osl⟩ := o
    rw [hq] at e h
    cases dt with
    | func fd =>
      obtain ⟨n1, n2, n3, n4, n5, n6, n7, n8, n9, n10, n11, n12, n13, n14, n15⟩ := fd
      have e2 : (some (n1, n2, n3, n4, n5, n6, n15) : FnY) = some (Str.ofString "__init__", q, p, FuncBody.stmts b, s, mainGlobals, builtinsNs) := e
      simp only [Option.some.injEq, Prod.mk.injEq] at e2
      obtain ⟨h1, h2, h3, h4, h5, h6, h7⟩ := e2
      subst h1 h2 h3 h4 h5 h6 h7
      dsimp only at h
      split at h
      · rename_i x c cda
        obtain ⟨k1, h⟩ := ba h
        obtain ⟨k2, h⟩ := ba h
        obtain ⟨k3, k4⟩ := ba h
        have ex : x = "__class__" := of_decide_eq_true k1
        subst ex
        refine ⟨c, cda, ⟨oc, od, n9, n10, n11, n12, n14, osl, rfl⟩, k2, ?_, ?_⟩
        · split at k4
          · rename_i ccl cdd vs ccs hc
            split at k4
            · rename_i y tf hy
              have ey : y = file := of_decide_eq_true k4
              subst ey
              exact ⟨_, _, _, _, _, hc, hy⟩
            · cases k4
          · cases k4
        · split at k3
          · rename_i cl cld d csl hc
            have ed : d = D := of_decide_eq_true k3
            subst ed
            exact ⟨_, _, _, hc⟩
          · cases k3
      · cases h
    | _ => cases e
/-- C by the text's name, D the class whose __init__ it has -/
def excOk (K : PySem.W.Frag) (k : Fk) (C D file : Str) : Bool :=
  excB K (ga K C) && (eqO (findIn K (.ref (ga K C)) "__setattr__") (some (some (.builtin "object.__setattr__"))) && (eqO (findIn K (.ref (ga K C)) k.name) (some none) && (eqO (findIn K (.ref (ga K C)) "__init__") (some (some (.ref (ma K (ga K C) "__init__")))) &&
  (decide (typeIn K (.ref (ma K (ga K C) "__init__")) = some (.type "function")) && (keepIn K (.ref (ga K C)) && (decide (subIn K (.ref (ga K C)) (.type "BaseException") = some true) && (decide (subIn K (.ref (ga K C)) (.type "ValueError") = some true) &&
  (decide (typeIn K (.ref (ga K C)) = some (.type "type")) && ((clsIn K (ga K D)).isSome && (decide (mroIn K (ga K C) (.ref (ga K D)) = some true) && (eqO (nsIn K mainGlobals "super") (some none) && (eqO (nsIn K cStatics "thirdparty.any") (some none) &&
  (eqO (ks_superIn K (ga K C) (ga K D) "__init__") (some (some (.builtin "ValueError.__init__"))) && superB K (ma K (ga K C) "__init__") (ga K D) k.qual file)))))))))))))
theorem excOk_ok {prog : Program} {K : PySem.W.Frag} {k : Fk} {C D : Str} {st : Stmt} (h : excOk K k C D prog.main.file = true) (e : fnY K (ma K (ga K C) "__init__") = fy "__init__" k.qual (defArgs st) (defBody st) (defScope st))
    (hs : ∃ p1 p2 q1 q2 q3 q4 q5 q6 q7 q8 q9 q10 : Pos, defArgs st = iA k p1 p2 ∧ defBody st = iB k q1 q2 q3 q4 q5 q6 q7 q8 q9 q10 ∧ defScope st = iS k ∧ (q3.endLine == q5.line) = true) (ht : (prog.main.scope.names.lookup ("super" : Str)).isSome = false) :
    ∃ D' fI cc cda, XTxt prog K k (ga K C) D' fI cc cda := by
  obtain ⟨a1, h⟩ := ba h
  obtain ⟨a2, h⟩ := ba h
  obtain ⟨a3, h⟩ := ba h
  obtain ⟨a4, h⟩ := ba h
  obtain ⟨a5, h⟩ := ba h
  obtain ⟨a6, h⟩ := ba h
  obtain ⟨a7, h⟩ := ba h
  obtain ⟨a8, h⟩ := ba h
  obtain ⟨a9, h⟩ := ba h
  obtain ⟨a10, h⟩ := ba h
  obtain ⟨a11, h⟩ := ba h
  obtain ⟨a12, h⟩ := ba h
  obtain ⟨a13, h⟩ := ba h
  obtain ⟨a14, a15⟩ := ba h
  obtain ⟨p1, p2, q1, q2, q3, q4, q5, q6, q7, q8, q9, q10, e1, e2, e3, e4⟩ := hs
  rw [e1, e2, e3] at e
  obtain ⟨cc, cda, ⟨oc, od, kV, doc, pm, an, ct, osl, hl⟩, hcd, ⟨ccl, cdd, vs, ccs, tf, hc, hv⟩, cl, cld, csl, hcc⟩ := superB_ok e a15
  exact ⟨ga K D, ma K (ga K C) "__init__", cc, cda, ⟨excB_ok a1, eqO_ok a2, eqO_ok a3, eqO_ok a4, of_decide_eq_true a5, a6, of_decide_eq_true a7, of_decide_eq_true a8, of_decide_eq_true a9, a10, of_decide_eq_true a11, eqO_ok a12, eqO_ok a13, eqO_ok a14,
    ⟨oc, od, kV, doc, pm, an, ct, osl, p1, p2, q1, q2, q3, q4, q5, q6, q7, q8, q9, q10, hl, hcd, e4⟩, ⟨ccl, cdd, vs, ccs, _, tf, hc, hv, by simp⟩, ⟨cl, cld, csl, hcc⟩, ht⟩⟩
/-- such an exception's class, as a value -/
def xcB (K : PySem.W.Frag) (C : Str) : Bool :=
  eqO (findIn K (.ref (ga K C)) "__getattribute__") (some (some (.builtin "BaseException.__getattribute__"))) && (eqO (findIn K (.ref (ga K C)) "__getattr__") (some none) && (decide (subIn K (.ref (ga K C)) (.type "BaseException") = some true) && (hasDictIn K (ga K C) &&
  (eqO (findIn K (.ref (ga K C)) "__class__") (some (some (.builtin "object.__class__"))) && (eqO (specialIn K (.builtin "object.__class__") "__get__") (some (some (.builtin "getset_descriptor.__get__"))) && (decide (takesIn K (.builtin "object.__class__") = some true) && decide (mroIn K (ga K C) (.type "object") = some true)))))))
theorem xcB_ok {K : PySem.W.Frag} {C : Str} (h : xcB K C = true) : XC K (ga K C) := by
  obtain ⟨a1, h⟩ := ba h
  obtain ⟨a2, h⟩ := ba h
  obtain ⟨a3, h⟩ := ba h
  obtain ⟨a4, h⟩ := ba h
  obtain ⟨a5, h⟩ := ba h
  obtain ⟨a6, h⟩ := ba h
  obtain ⟨a7, a8⟩ := ba h
  exact ⟨eqO_ok a1, eqO_ok a2, of_decide_eq_true a3, a4, eqO_ok a5, eqO_ok a6, of_decide_eq_true a7, of_decide_eq_true a8⟩
/-! ### a property -/
def propB (K : PySem.W.Frag) (C f q : Str) : Bool :=
  eqO (findIn K (.ref (ga K C)) f) (some (some (.ref (ma K (ga K C) f)))) && (eqO (specialIn K (.ref (ma K (ga K C) f)) "__get__") (some (some (.builtin "property.__get__"))) && (decide (takesIn K (.ref (ma K (ga K C) f)) = some true) &&
  ((match recIn K (ma K (ga K C) f) "property" with
    | some (.ref _ :: _) => true
    | _ => false) && (keepIn K (.ref (getterAt K (ma K (ga K C) f))) && (match K.lookup (getterAt K (ma K (ga K C) f)) with
    | some ⟨_, _, .func fd, _⟩ => codeIn K fd.code q && (dflB K fd.defaults [] && (match fd.closure with
      | [] => true
      | _ => false))
    | _ => false)))))
theorem propB_ok {K : PySem.W.Frag} {C f q : Str} {st : Stmt} (h : propB K C f q = true) (e : fnY K (getterAt K (ma K (ga K C) f)) = fy f q (defArgs st) (defBody st) (defScope st)) :
    ∃ p g fd, PropOf K (ga K C) f p g ∧ FunD K f q (defArgs st) (defBody st) (defScope st) [] [] g fd := by
  obtain ⟨a1, h⟩ := ba h
  obtain ⟨a2, h⟩ := ba h
  obtain ⟨a3, h⟩ := ba h
  obtain ⟨a4, h⟩ := ba h
  obtain ⟨a5, a6⟩ := ba h
  have hr : ∃ rest, recIn K (ma K (ga K C) f) "property" = some (.ref (getterAt K (ma K (ga K C) f)) :: rest) := by
    split at a4
    · rename_i g rest hg
      refine ⟨rest, ?_⟩
      unfold getterAt
      rw [hg]
    · cases a4
  unfold fnY at e
  cases hq : K.lookup (getterAt K (ma K (ga K C) f)) with
  | none => rw [hq] at e; cases e
  | some o =>
    obtain ⟨oc, od, dt, osl⟩ := o
    rw [hq] at e a6
    cases dt with
    | func fd =>
      obtain ⟨n1, n2, n3, n4, n5, n6, n7, n8, n9, n10, n11, n12, n13, n14, n15⟩ := fd
      have e2 : (some (n1, n2, n3, n4, n5, n6, n15) : FnY) = some (f, q, defArgs st, .stmts (defBody st), defScope st, mainGlobals, builtinsNs) := e
      simp only [Option.some.injEq, Prod.mk.injEq] at e2
      obtain ⟨h1, h2, h3, h4, h5, h6, h7⟩ := e2
      subst h1 h2 h3 h4 h5 h6 h7
      dsimp only at a6
      obtain ⟨b1, b⟩ := ba a6
      obtain ⟨b2, b3⟩ := ba b
      split at b3
      · exact ⟨_, _, _, ⟨eqO_ok a1, eqO_ok a2, of_decide_eq_true a3, hr⟩, ⟨oc, od, n8, n9, n10, n11, n12, n13, n14, osl, rfl, hq, b1, dflB_ok b2, .inl rfl⟩, a5⟩
      · cases b3
    | _ => cases e
/-! ### a def that makes lambdas -/
def headB (K : PySem.W.Frag) (c : Addr) : Bool := match K.lookup c with
  | some ⟨.type t, _, .fields vs, _⟩ => decide (t = "code") && (match (vs[11]? : Option Value), (vs.getD 18 .none : Value), (vs.getD 7 .none : Value), (vs.getD 9 .none : Value), (vs.getD 10 .none : Value) with
    | some (Value.ref p), Value.str _ _, Value.int _ _, Value.bool _, Value.int _ _ => decide (c ≠ p)
    | _, _, _, _, _ => false)
  | _ => false
theorem headB_ok {K : PySem.W.Frag} {h : Heap} {c : Addr} (X : K.In h) (q : headB K c = true) : PySem.W.CodeHd h c (tabAt K c) := by
  unfold headB at q
  split at q
  · rename_i t od vs sl ho
    obtain ⟨q1, q⟩ := ba q
    have e : t = "code" := of_decide_eq_true q1
    subst e
    split at q
    · rename_i p file tf flags tg inF text tt h1 h2 h3 h4 h5
      have et : tabAt K c = p := by
        unfold tabAt
        rw [ho]
        dsimp only
        rw [h1]
      rw [et]
      refine ⟨_, vs, file, tf, flags, tg, inF, text, tt, X _ _ ho, rfl, rfl, h1, ?_, h2, h3, h4, h5, of_decide_eq_true q⟩
      rw [Array.getD_eq_getD_getElem?, h1]
      rfl
    · cases q
  · cases q
theorem codeAt_ok {K : PySem.W.Frag} {x qual : Str} {params : Arguments} {body : List Stmt} {scope : Scope} {dvs : List V} {kws : List (Str × V)} {f : Addr} {fd : FuncData} (F : FunD K x qual params body scope dvs kws f fd) : fd.code = .ref (codeAt K f) := by
  obtain ⟨oc, od, dV, kV, doc, pm, an, cdv, ct, osl, rfl, lk, hcd, _, _⟩ := F.ex
  unfold codeAt
  rw [lk]
  dsimp only
  show cdv = _
  unfold codeIn at hcd
  cases cdv with
  | ref a => rfl
  | _ => cases hcd
/-- an empty table -/
def isTab : Option Obj → Bool
  | some ⟨.none, none, .fields vs, sl⟩ => vs.isEmpty && sl.isEmpty
  | _ => false
theorem isTab_ok {o : Option Obj} (h : isTab o = true) : o = some { cls := .none, data := .fields #[] } := by
  unfold isTab at h
  split at h
  · rename_i vs sl
    obtain ⟨h1, h2⟩ := ba h
    rw [Array.isEmpty_iff.mp h1, Array.isEmpty_iff.mp h2]
  · cases h
/-! ### keys that a table has not -/
theorem ns_miss {K : PySem.W.Frag} {P : Params} {a : Addr} {ks : List Str} (h : dicW K a = some (keysIn P ks)) {z : Str} (hz : z ∉ ks) : nsIn K a z = some none := by
  unfold dicW at h
  cases q : K.lookup a with
  | none => rw [q] at h; cases h
  | some o =>
    obtain ⟨oc, od, dt, osl⟩ := o
    rw [q] at h
    cases oc with
    | type c =>
      cases od with
      | none =>
        cases dt with
        | dict es n =>
          have h1 : (match decide (c = "dict") && (osl.isEmpty && !(a == sysModules)) with
            | true => some (es.toList.map He.keyOf)
            | false => none) = some (keysIn P ks) := h
          split at h1
          · have hk := keysLit_of (Option.some.inj h1)
            have e1 := Option.some.inj h1
            have key : ∀ e ∈ es.toList, ∃ k ∈ ks, ∃ t, e.key = .str k t := by
              intro e he
              have hm : He.keyOf e ∈ keysIn P ks := by rw [← e1]; exact List.mem_map_of_mem he
              obtain ⟨k, hk1, hk2⟩ := List.mem_map.mp hm
              unfold He.keyOf at hk2
              split at hk2
              · rename_i x t hx
                have hk3 := congrArg Prod.fst (Option.some.inj hk2)
                have hk4 : k = x := hk3
                exact ⟨k, hk1, t, by rw [hx, hk4]⟩
              · cases hk2
            unfold nsIn
            rw [q]
            dsimp only
            have n1 : es.toList.find? (·.key.isStr z) = none := by
              rw [List.find?_eq_none]
              intro e he hc
              obtain ⟨k, hk1, t, hk2⟩ := key e he
              rw [hk2] at hc
              have ez : k = z := by
                have h3 : (Value.str k t).isStr z = true := hc
                unfold Value.isStr at h3
                first
                  | exact beq_iff_eq.mp h3
                  | simpa using h3
              rw [ez] at hk1
              exact hz hk1
            rw [n1]
            have n2 : es.toList.any (·.refKey) = false := by
              rw [List.any_eq_false]
              intro e he hc
              obtain ⟨k, hk1, t, hk2⟩ := key e he
              unfold DictEntry.refKey at hc
              rw [hk2] at hc
              exact absurd hc (by simp)
            dsimp only
            rw [n2]
            rfl
          · cases h1
        | _ => cases h
      | some b => cases dt <;> cases h
    | _ => cases od <;> cases dt <;> cases h
/-! ### the Hook -/
def asX (g : Addr → Option Obj) (n : Nat) : List Addr := (go n).filter fun a => !isTab (g a)
where go : Nat → List Addr
  | 0 => [mainGlobals, cStatics]
  | n + 1 => growD g (go n)
abbrev Gf : Type := (PySem.W.Frag → Addr) × FnY
abbrev AlX : Type := AlT × List FnY × Bool
structure Spec where
  n : Nat
  fa : List Fa
  fn : List DefD
  ts : List Tab
  gs : List Gf
  ck : PySem.W.Frag → Bool
  lam : List Str
def tabsB (S : Spec) (g : Addr → Option Obj) (K : PySem.W.Frag) : Bool := S.lam.all fun x => headB K (codeAt K (ga K x)) && (isTab (g (tabAt K (codeAt K (ga K x)))) && (K.lookup (tabAt K (codeAt K (ga K x)))).isNone)
def obsX (S : Spec) (g : Addr → Option Obj) (K : PySem.W.Frag) : AlX := (obsT S.fa S.fn S.ts K, S.gs.map fun p => fnY K (p.1 K), S.ck K && tabsB S g K)
def valX (S : Spec) (w : World) : AlX := (valT S.fn S.ts w, S.gs.map (·.2), true)
def obsXG (S : Spec) (g : Addr → Option Obj) : AlX := obsX S g (frG g (asX g S.n))
structure SaysX (S : Spec) (w : World) (h : Heap) (K : PySem.W.Frag) : Prop where
  t : SaysT S.fa S.fn S.ts w K
  g : S.gs.map (fun p => fnY K (p.1 K)) = S.gs.map (·.2)
  c : S.ck K = true
  l : ∀ x ∈ S.lam, PySem.W.CodeHd h (codeAt K (ga K x)) (tabAt K (codeAt K (ga K x))) ∧ h.get? (tabAt K (codeAt K (ga K x))) = some { cls := .none, data := .fields #[] } ∧ K.lookup (tabAt K (codeAt K (ga K x))) = none
theorem SaysX.of {S : Spec} {w : World} {s : Shared} (e : obsXG S s.heap.get? = valX S w) : ∃ K : PySem.W.Frag, K.In s.heap ∧ SaysX S w s.heap K := by
  refine ⟨_, frG_in (as := asX s.heap.get? S.n), ?_⟩
  have h1 := congrArg (fun z : AlX => z.1) e
  have h2 := congrArg (fun z : AlX => z.2.1) e
  have h3 : (S.ck _ && tabsB S _ _) = true := congrArg (fun z : AlX => z.2.2) e
  obtain ⟨h4, h5⟩ := ba h3
  refine ⟨h1, h2, h4, fun x hx => ?_⟩
  have h6 := List.all_eq_true.mp h5 x hx
  obtain ⟨k1, k⟩ := ba h6
  obtain ⟨k2, k3⟩ := ba k
  exact ⟨headB_ok frG_in k1, isTab_ok k2, Option.isNone_iff_eq_none.mp k3⟩
theorem SaysX.keeps {S : Spec} {w : World} {h h' : Heap} {K : PySem.W.Frag} (c : SaysX S w h K) (k : ∀ b o, h.get? b = some o → h'.get? b = some o) : SaysX S w h' K :=
  ⟨c.t, c.g, c.c, fun x hx => ⟨(c.l x hx).1.keeps k, k _ _ (c.l x hx).2.1, (c.l x hx).2.2⟩⟩
def hookX (S : Spec) : PySem.W.Hook where
  α := AlX
  obs := fun s => obsXG S s.heap.get?
  val := fun w => valX S w
  says := fun w h => ∃ K : PySem.W.Frag, K.In h ∧ SaysX S w h K
  of := fun _ _ e => SaysX.of e
  keeps := fun _ _ _ ⟨K, hK, c⟩ k => ⟨K, PySem.W.Frag.In.keeps hK k, c.keeps k⟩
theorem obsXG_eq {S : Spec} {g : Addr → Option Obj} {s : Shared} (h : ∀ a, g a = s.heap.get? a) : obsXG S g = (hookX S).obs s := by
  have e : g = s.heap.get? := funext h
  rw [e] <;> rfl
section
variable {S : Spec} {w : World} {h : Heap} {K : PySem.W.Frag}
theorem SaysX.gf (c : SaysX S w h K) (i : Nat) {p : Gf} (e : S.gs[i]? = some p) : fnY K (p.1 K) = p.2 := by
  have e2 : (S.gs.map (fun p => fnY K (p.1 K)))[i]? = (S.gs.map (·.2))[i]? := by rw [c.g]
  rw [List.getElem?_map, List.getElem?_map, e] at e2
  exact Option.some.inj e2
end
end HX
set_option maxHeartbeats 0
namespace K3
open PySem L2 PySem.EX PyProof.Rows
abbrev prog : Program := PySem.Challenge.pw_restsallowed_k03_texts_of_plans
abbrev file : Str := prog.main.file
abbrev est (i : Nat) : Stmt := (clsBody (top i)).getD 0 (.Pass ⟨0, 0, 0, 0⟩)
def dd (x : Str) (st : Stmt) : He.DefD := ⟨(x, none), x, x, defArgs st, defBody st, defScope st, [], []⟩
def fn : List He.DefD := [dd "is_number" (top 9), dd "is_between" (top 10), dd "is_list" (top 11), dd "switches_in" (top 14), dd "lines_of" (top 15), dd "is_arrow" (top 17), dd "need_arrows" (top 18), dd "plan_line" (top 23), dd "plan_text" (top 24), dd "plan_arrow_in" (top 25), dd "read_plan" (top 26), dd "_law_begun" (top 28), dd "_law_blend" (top 29), dd "_law_draw" (top 30), dd "_law_pick" (top 31), dd "_law_caught" (top 32), dd "_law_shuffled" (top 33), dd "_law_plan" (top 34), dd "_law_is_at" (top 35), dd "law" (top 36),
  ⟨("need_plan", none), "need_plan", "need_plan", defArgs sNeedP, defBody sNeedP, defScope sNeedP, [.non], []⟩,
  ⟨("Plan", some "__init__"), "__init__", "Plan.__init__", defArgs (mst 0), defBody (mst 0), defScope (mst 0), [], []⟩,
  ⟨("Plan", some "__eq__"), "__eq__", "Plan.__eq__", defArgs (mst 3), defBody (mst 3), defScope (mst 3), [], []⟩]
def fa : List He.Fa := [.glo "is_number", .glo "is_between", .glo "is_list", .glo "switches_in", .glo "lines_of", .glo "is_arrow", .glo "need_arrows", .glo "plan_line", .glo "plan_text", .glo "plan_arrow_in", .glo "read_plan", .glo "_law_begun", .glo "_law_blend", .glo "_law_draw", .glo "_law_pick", .glo "_law_caught", .glo "_law_shuffled", .glo "_law_plan", .glo "_law_is_at", .glo "law", .glo "need_plan", .glo "Plan", .glo "BadText", .glo "BadNumber", .glo "BadArrows", .glo "NoPlan", .glo "NetError", .glo "PLAN_SIGNS", .free "abs", .free "int", .free "len", .free "list", .free "isinstance", .free "bool", .free "tuple", .free "str", .free "range", .free "all", .free "enumerate", .free "sorted", .free "min", .int "MOST_SWITCHES" 5, .cls "Plan", .mkr "Plan", .noat "Plan" "own_switches", .noat "Plan" "own_arrows", .noat "BadText" "index", .exm "BadText" "NetError" true, .exm "NoPlan" "NetError" true]
def ts : List He.Tab := [(fun K => cS K, ["helps", "hinders"])]
def gi (C : Str) (k : Fk) (i : Nat) : HX.Gf := (fun K => He.ma K (He.ga K C) "__init__", HX.fy "__init__" k.qual (defArgs (est i)) (defBody (est i)) (defScope (est i)))
def gg (f q : Str) (i : Nat) : HX.Gf := (fun K => HX.getterAt K (He.ma K (cP K) f), HX.fy f q (defArgs (mst i)) (defBody (mst i)) (defScope (mst i)))
def gs : List HX.Gf := [gi "BadText" .index 3, gi "BadNumber" .part 2, gi "BadArrows" .index 3, gi "NoPlan" .part 2, gg "switches" "Plan.switches" 1, gg "arrows" "Plan.arrows" 2]
def cks : List (PySem.W.Frag → Bool) := [fun K => HX.excOk K .index "BadText" "ItemError" file,
  fun K => HX.excOk K .part "BadNumber" "PartError" file,
  fun K => HX.excOk K .index "BadArrows" "ItemError" file,
  fun K => HX.excOk K .part "NoPlan" "PartError" file,
  fun K => HX.xcB K "BadText",
  fun K => HX.xcB K "NoPlan",
  fun K => HX.propB K "Plan" "switches" "Plan.switches",
  fun K => HX.propB K "Plan" "arrows" "Plan.arrows",
  fun K => He.eqO (PySem.W.findIn K (.ref (cP K)) "__eq__") (some (some (.ref (He.ma K (cP K) "__eq__")))),
  fun K => PySem.W.isFn K (.ref (He.ma K (cP K) "__eq__")),
  fun K => He.eqO (PySem.W.findIn K (.ref (cP K)) "__ne__") (some (some (.builtin "object.__ne__"))),
  fun K => decide (PySem.W.subIn K (.ref (cP K)) (.type "object") = some true),
  fun K => He.eqO (PySem.W.findIn K (.ref (cP K)) "__class__") (some (some (.builtin "object.__class__"))),
  fun K => He.eqO (PySem.W.specialIn K (.builtin "object.__class__") "__get__") (some (some (.builtin "getset_descriptor.__get__"))),
  fun K => decide (PySem.W.takesIn K (.builtin "object.__class__") = some true),
  fun K => decide (PySem.W.mroIn K (cP K) (.type "object") = some true),
  fun K => decide (PySem.W.kitOne K (.type "NoneType") (.ref (cP K)) = some false),
  fun K => decide (PySem.W.kitOne K (.type "int") (.ref (cP K)) = some false),
  fun K => decide (PySem.W.kitOne K (.type "str") (.ref (cP K)) = some false),
  fun K => He.valsB K (cS K) [("helps", .int 1), ("hinders", .int (-1))],
  fun K => decide (HX.tabAt K (HX.codeAt K (He.ga K "_law_is_at")) ≠ HX.tabAt K (HX.codeAt K (He.ga K "law")))]
def S : HX.Spec := ⟨6, fa, fn, ts, gs, fun K => cks.all fun f => f K, ["_law_is_at", "law"]⟩
theorem made_i : ∃ p1 p2 q1 q2 q3 q4 q5 q6 q7 q8 q9 q10 : Pos, defArgs (est 3) = iA .index p1 p2 ∧ defBody (est 3) = iB .index q1 q2 q3 q4 q5 q6 q7 q8 q9 q10 ∧ defScope (est 3) = iS .index ∧ (q3.endLine == q5.line) = true := ⟨_, _, _, _, _, _, _, _, _, _, _, _, rfl, rfl, rfl, rfl⟩
theorem made_p : ∃ p1 p2 q1 q2 q3 q4 q5 q6 q7 q8 q9 q10 : Pos, defArgs (est 2) = iA .part p1 p2 ∧ defBody (est 2) = iB .part q1 q2 q3 q4 q5 q6 q7 q8 q9 q10 ∧ defScope (est 2) = iS .part ∧ (q3.endLine == q5.line) = true := ⟨_, _, _, _, _, _, _, _, _, _, _, _, rfl, rfl, rfl, rfl⟩
theorem noSuper : (prog.main.scope.names.lookup ("super" : Str)).isSome = false := by decide +kernel
section
variable {w : World} {h : Heap} {K : PySem.W.Frag} {mg : Str → Option Value}
theorem txs (X : K.In h) (G : h.Ns mainGlobals mg) (c : HX.SaysX S w h K) : Txs prog w K mg (HX.codeAt K (He.ga K "_law_is_at")) (HX.codeAt K (He.ga K "law")) := by
  have ck : ∀ (i : Nat) {f : PySem.W.Frag → Bool}, cks[i]? = some f → f K = true := fun i f e => List.all_eq_true.mp (show (cks.all fun f => f K) = true from c.c) f (List.mem_of_getElem? e)
  obtain ⟨es, en, kd⟩ := c.t.tab 0 (t := (fun K => cS K, ["helps", "hinders"])) rfl
  have vals := fun {q : Str × He.Dv} => He.valsB_ok (q := q) (K := K) (a := cS K) (kvs := [("helps", .int 1), ("hinders", .int (-1))]) (ck 19 rfl)
  have dic : He.dicW K (cS K) = some (He.keysIn w.params ["helps", "hinders"]) := by
    have e : S.ts.map (fun t => He.dicW K (t.1 K)) = S.ts.map fun t => some (He.keysIn w.params t.2) := congrArg (fun z : He.AlT => z.2) c.t
    exact (List.cons.inj e).1
  have dA := c.t.d.def_ 18 (d := dd "_law_is_at" (top 35)) rfl
  have dL := c.t.d.def_ 19 (d := dd "law" (top 36)) rfl
  refine ⟨?_, ?_, ?_, ?_, ?_, ?_, ?_, ?_⟩
  · exact ⟨⟨c.t.d.def_ 11 (d := dd "_law_begun" (top 28)) rfl, (He.glo_ok X G (c.t.d.fact 11 (f := .glo "_law_begun") rfl))⟩, ⟨c.t.d.def_ 12 (d := dd "_law_blend" (top 29)) rfl, (He.glo_ok X G (c.t.d.fact 12 (f := .glo "_law_blend") rfl))⟩, ⟨c.t.d.def_ 13 (d := dd "_law_draw" (top 30)) rfl, (He.glo_ok X G (c.t.d.fact 13 (f := .glo "_law_draw") rfl))⟩, ⟨c.t.d.def_ 14 (d := dd "_law_pick" (top 31)) rfl, (He.glo_ok X G (c.t.d.fact 14 (f := .glo "_law_pick") rfl))⟩, (He.free_ok X G (c.t.d.fact 28 (f := .free "abs") rfl)), (He.free_ok X G (c.t.d.fact 29 (f := .free "int") rfl)), (He.free_ok X G (c.t.d.fact 30 (f := .free "len") rfl)), ⟨c.t.d.def_ 16 (d := dd "_law_shuffled" (top 33)) rfl, (He.glo_ok X G (c.t.d.fact 16 (f := .glo "_law_shuffled") rfl))⟩, (He.free_ok X G (c.t.d.fact 31 (f := .free "list") rfl))⟩
  · exact ⟨⟨c.t.d.def_ 0 (d := dd "is_number" (top 9)) rfl, (He.glo_ok X G (c.t.d.fact 0 (f := .glo "is_number") rfl))⟩, ⟨c.t.d.def_ 1 (d := dd "is_between" (top 10)) rfl, (He.glo_ok X G (c.t.d.fact 1 (f := .glo "is_between") rfl))⟩, ⟨c.t.d.def_ 2 (d := dd "is_list" (top 11)) rfl, (He.glo_ok X G (c.t.d.fact 2 (f := .glo "is_list") rfl))⟩, ⟨c.t.d.def_ 3 (d := dd "switches_in" (top 14)) rfl, (He.glo_ok X G (c.t.d.fact 3 (f := .glo "switches_in") rfl))⟩, ⟨c.t.d.def_ 4 (d := dd "lines_of" (top 15)) rfl, (He.glo_ok X G (c.t.d.fact 4 (f := .glo "lines_of") rfl))⟩, ⟨c.t.d.def_ 5 (d := dd "is_arrow" (top 17)) rfl, (He.glo_ok X G (c.t.d.fact 5 (f := .glo "is_arrow") rfl))⟩, ⟨c.t.d.def_ 6 (d := dd "need_arrows" (top 18)) rfl, (He.glo_ok X G (c.t.d.fact 6 (f := .glo "need_arrows") rfl))⟩, (He.int_ok X G (c.t.d.fact 41 (f := .int "MOST_SWITCHES" 5) rfl)), (He.free_ok X G (c.t.d.fact 32 (f := .free "isinstance") rfl)), (He.free_ok X G (c.t.d.fact 29 (f := .free "int") rfl)), (He.free_ok X G (c.t.d.fact 33 (f := .free "bool") rfl)), (He.free_ok X G (c.t.d.fact 34 (f := .free "tuple") rfl)), (He.free_ok X G (c.t.d.fact 31 (f := .free "list") rfl)), (He.free_ok X G (c.t.d.fact 35 (f := .free "str") rfl)), (He.free_ok X G (c.t.d.fact 36 (f := .free "range") rfl)), (He.free_ok X G (c.t.d.fact 30 (f := .free "len") rfl)), (He.free_ok X G (c.t.d.fact 37 (f := .free "all") rfl)), (He.free_ok X G (c.t.d.fact 38 (f := .free "enumerate") rfl)), ⟨(He.glo_ok X G (c.t.d.fact 22 (f := .glo "BadText") rfl)), HX.excOk_ok (ck 0 rfl) (c.gf 0 (p := gi "BadText" .index 3) rfl) made_i noSuper⟩, ⟨(He.glo_ok X G (c.t.d.fact 23 (f := .glo "BadNumber") rfl)), HX.excOk_ok (ck 1 rfl) (c.gf 1 (p := gi "BadNumber" .part 2) rfl) made_p noSuper⟩, ⟨(He.glo_ok X G (c.t.d.fact 24 (f := .glo "BadArrows") rfl)), HX.excOk_ok (ck 2 rfl) (c.gf 2 (p := gi "BadArrows" .index 3) rfl) made_i noSuper⟩, ⟨(He.glo_ok X G (c.t.d.fact 25 (f := .glo "NoPlan") rfl)), HX.excOk_ok (ck 3 rfl) (c.gf 3 (p := gi "NoPlan" .part 2) rfl) made_p noSuper⟩⟩
  · exact ⟨(He.glo_ok X G (c.t.d.fact 21 (f := .glo "Plan") rfl)), (He.free_ok X G (c.t.d.fact 39 (f := .free "sorted") rfl)), He.cls_ok (c.t.d.fact 42 (f := .cls "Plan") rfl), He.mkr_ok (c.t.d.fact 43 (f := .mkr "Plan") rfl), c.t.d.def_ 21 rfl, He.noat_ok (c.t.d.fact 44 (f := .noat "Plan" "own_switches") rfl), He.noat_ok (c.t.d.fact 45 (f := .noat "Plan" "own_arrows") rfl), HX.propB_ok (ck 6 rfl) (c.gf 4 (p := gg "switches" "Plan.switches" 1) rfl), HX.propB_ok (ck 7 rfl) (c.gf 5 (p := gg "arrows" "Plan.arrows" 2) rfl), He.eqO_ok (ck 8 rfl), (ck 9 rfl), c.t.d.def_ 22 rfl, He.eqO_ok (ck 10 rfl), of_decide_eq_true (ck 11 rfl), He.eqO_ok (ck 12 rfl), He.eqO_ok (ck 13 rfl), of_decide_eq_true (ck 14 rfl), of_decide_eq_true (ck 15 rfl), of_decide_eq_true (ck 16 rfl), of_decide_eq_true (ck 17 rfl), of_decide_eq_true (ck 18 rfl)⟩
  · exact ⟨⟨c.t.d.def_ 20 rfl, (He.glo_ok X G (c.t.d.fact 20 (f := .glo "need_plan") rfl))⟩, ⟨c.t.d.def_ 7 (d := dd "plan_line" (top 23)) rfl, (He.glo_ok X G (c.t.d.fact 7 (f := .glo "plan_line") rfl))⟩, ⟨c.t.d.def_ 8 (d := dd "plan_text" (top 24)) rfl, (He.glo_ok X G (c.t.d.fact 8 (f := .glo "plan_text") rfl))⟩⟩
  · refine ⟨(He.glo_ok X G (c.t.d.fact 27 (f := .glo "PLAN_SIGNS") rfl)), ⟨es, en, kd⟩, fun z h1 h2 => HX.ns_miss dic (by simp [h1, h2]), vals (q := ("helps", .int 1)) (by simp), vals (q := ("hinders", .int (-1))) (by simp), ⟨c.t.d.def_ 9 (d := dd "plan_arrow_in" (top 25)) rfl, (He.glo_ok X G (c.t.d.fact 9 (f := .glo "plan_arrow_in") rfl))⟩, ⟨c.t.d.def_ 10 (d := dd "read_plan" (top 26)) rfl, (He.glo_ok X G (c.t.d.fact 10 (f := .glo "read_plan") rfl))⟩⟩
  · obtain ⟨fd, F⟩ := dA
    exact ⟨⟨c.t.d.def_ 15 (d := dd "_law_caught" (top 32)) rfl, (He.glo_ok X G (c.t.d.fact 15 (f := .glo "_law_caught") rfl))⟩, ⟨c.t.d.def_ 17 (d := dd "_law_plan" (top 34)) rfl, (He.glo_ok X G (c.t.d.fact 17 (f := .glo "_law_plan") rfl))⟩, ⟨⟨fd, F, HX.codeAt_ok F⟩, (He.glo_ok X G (c.t.d.fact 18 (f := .glo "_law_is_at") rfl))⟩, (He.glo_ok X G (c.t.d.fact 26 (f := .glo "NetError") rfl)), He.exm_ok (c.t.d.fact 47 (f := .exm "BadText" "NetError" true) rfl), He.exm_ok (c.t.d.fact 48 (f := .exm "NoPlan" "NetError" true) rfl), HX.xcB_ok (ck 4 rfl), HX.xcB_ok (ck 5 rfl), He.noat_ok (c.t.d.fact 46 (f := .noat "BadText" "index") rfl), by with_unfolding_all rfl⟩
  · obtain ⟨fd, F⟩ := dL
    exact ⟨⟨fd, F, HX.codeAt_ok F⟩, (He.glo_ok X G (c.t.d.fact 19 (f := .glo "law") rfl))⟩
  · exact (He.free_ok X G (c.t.d.fact 40 (f := .free "min") rfl))
end
end K3
set_option maxHeartbeats 0
namespace K3
open PySem L2 PySem.EX PyProof.Rows
abbrev R : PySem.W.OpenRow := PySem.W.OpenLaw.row PySem.Challenge.rw_restsallowed_k03_texts_of_plans
abbrev hk : PySem.W.Hook := HX.hookX S
def ob (s : PySem.W.SharedT) : HX.AlX := HX.obsXG S (HandSHeadRun.getT s)
theorem ob_eq (s : PySem.W.SharedT) : ob s = hk.obs s.abs := HX.obsXG_eq (HandSHeadRun.getT_eq s)
def names : List Str := ["__name__", "NetError", "PartError", "ItemError", "BadNumber", "BadText", "NoPlan", "BadArrows", "is_number", "is_between", "is_list", "MOST_SWITCHES", "switches_in", "lines_of", "is_arrow", "need_arrows", "Plan", "need_plan", "PLAN_SIGNS", "plan_line", "plan_text", "plan_arrow_in", "read_plan", "_law_begun", "_law_blend", "_law_draw", "_law_pick", "_law_caught", "_law_shuffled", "_law_plan", "_law_is_at"]
theorem run (w : World) : HandSHeadRun.RunEq R (PySem.W.view R.prog [36]) hk ob 4000 names w := by
  refine PySem.W.byRow2 "special-get-raises" (P := fun w => HandSHeadRun.RunEq R (PySem.W.view R.prog [36]) hk ob 4000 names w) (fun w => ?_) (fun w => ?_) w
  · intro os
    kernel_rfl
  · intro os
    kernel_rfl
theorem law_at {w : World} {mg : Str → Option Value} {fa : Addr} {h : Heap} (Y : hk.says w h) (G : h.Ns mainGlobals mg) (hmg : mg ("law" : Str) = some (.ref fa)) :
    ∃ K : PySem.W.Frag, K.In h ∧ LamX.LawAtS PySem.Challenge.rw_restsallowed_k03_texts_of_plans w K CX0 11 63 "script" mg fa h := by
  obtain ⟨K, KX, c⟩ := Y
  refine ⟨K, KX, ?_⟩
  have Z := txs KX G c
  obtain ⟨a1, a2, a3⟩ := c.l "_law_is_at" (by simp [S])
  obtain ⟨b1, b2, b3⟩ := c.l "law" (by simp [S])
  have ck : ∀ (i : Nat) {f : PySem.W.Frag → Bool}, cks[i]? = some f → f K = true := fun i f e => List.all_eq_true.mp (show (cks.all fun f => f K) = true from c.c) f (List.mem_of_getElem? e)
  have ap : HX.tabAt K (HX.codeAt K (He.ga K "_law_is_at")) ≠ HX.tabAt K (HX.codeAt K (He.ga K "law")) := of_decide_eq_true (ck 20 rfl)
  have e := hmg.symm.trans Z.law.2
  cases e
  obtain ⟨⟨fd0, F0, _⟩, _⟩ := id Z.law
  have bnd := FunD.bindsA (ps := ["script"]) F0 fun _ _ _ _ _ _ us hl => match us, hl with | [_], _ => rfl
  refine ⟨fd0, [(HX.codeAt K (He.ga K "_law_is_at"), HX.tabAt K (HX.codeAt K (He.ga K "_law_is_at"))), (HX.codeAt K (He.ga K "law"), HX.tabAt K (HX.codeAt K (He.ga K "law")))],
    spLaw K [(HX.tabAt K (HX.codeAt K (He.ga K "_law_is_at")), lamQ "_law_is_at"), (HX.tabAt K (HX.codeAt K (He.ga K "law")), lamQ "law")], ?_, ?_, ?_, fun s u => bnd s [u] rfl, ?_, ?_⟩
  · intro p hp
    rcases List.mem_cons.mp hp with rfl | hp
    · exact a2
    · rw [List.mem_singleton.mp hp]; exact b2
  · intro p hp
    rcases List.mem_cons.mp hp with rfl | hp
    · exact a3
    · rw [List.mem_singleton.mp hp]; exact b3
  · intro p hp
    rcases List.mem_cons.mp hp with rfl | hp
    · exact a1
    · rw [List.mem_singleton.mp hp]; exact b1
  · intro H a ns hl _ hH hS
    refine ⟨a, ns, rfl, hS, hl, fun p hp => ?_, fun _ => rfl⟩
    rcases List.mem_cons.mp hp with rfl | hp
    · exact LamX.TabS.nil (hH (_, _) List.mem_cons_self)
    · rw [List.mem_singleton.mp hp]
      exact LamX.TabS.nil (hH (_, _) (List.mem_cons_of_mem _ List.mem_cons_self))
  · intro base hK hG TB
    have hm1 : (HX.tabAt K (HX.codeAt K (He.ga K "_law_is_at")), lamQ "_law_is_at") ∈ [(HX.tabAt K (HX.codeAt K (He.ga K "_law_is_at")), lamQ "_law_is_at"), (HX.tabAt K (HX.codeAt K (He.ga K "law")), lamQ "law")] := List.mem_cons_self
    have hm2 : (HX.tabAt K (HX.codeAt K (He.ga K "law")), lamQ "law") ∈ [(HX.tabAt K (HX.codeAt K (He.ga K "_law_is_at")), lamQ "_law_is_at"), (HX.tabAt K (HX.codeAt K (He.ga K "law")), lamQ "law")] := List.mem_cons_of_mem _ List.mem_cons_self
    obtain ⟨fd, ok, b, F⟩ := ok_law (P := prog) (w := w) (base := base) Z (TB (_, _) List.mem_cons_self) (TB (_, _) (List.mem_cons_of_mem _ List.mem_cons_self)) hm1
      (fun p hp e => by
        rcases List.mem_cons.mp hp with rfl | hp
        · rfl
        · rw [List.mem_singleton.mp hp] at e
          exact absurd e.symm ap) hm2
      (fun p hp e => by
        rcases List.mem_cons.mp hp with rfl | hp
        · exact absurd e ap
        · rw [List.mem_singleton.mp hp])
    have ef : fd = fd0 := by
      obtain ⟨oc, od, dV, kV, doc, pm, an, cdv, ct, osl, e1, lk, _⟩ := F.ex
      obtain ⟨oc', od', dV', kV', doc', pm', an', cdv', ct', osl', e1', lk', _⟩ := F0.ex
      rw [lk] at lk'
      cases lk'
      rfl
    rw [← ef]
    exact ok
end K3
open PySem PySem.W PySem.Calls PyProof.Rows
theorem PySem.Challenge.cw_restsallowed_k03_texts_of_plans_holds : PySem.Challenge.rw_restsallowed_k03_texts_of_plans.Holds := by
  w_on; o_law
  refine HandSHeadRun.head_any (r := OpenLaw.row PySem.Challenge.rw_restsallowed_k03_texts_of_plans) (q := view (OpenLaw.row PySem.Challenge.rw_restsallowed_k03_texts_of_plans).prog [36]) (H := K3.hk) (ob := K3.ob) (M := 4000) (loose := K3.names) (d := HandSHeadRun.topDef (OpenLaw.row PySem.Challenge.rw_restsallowed_k03_texts_of_plans).prog 36) (kwd := []) K3.ob_eq
    (by kernel_rfl) (fun s => by kernel_rfl) K3.run (by kernel_rfl) (by kernel_rfl) (by kernel_rfl) (by rfl) (by first | assumption | decide +kernel) (by decide +kernel) ⟨rfl, rfl, rfl, rfl, rfl, by decide +kernel⟩ ?hw ?hc
  case hw => w_witness2
  case hc =>
    refine LamX.walk_ofTsE (l := PySem.Challenge.rw_restsallowed_k03_texts_of_plans) (n := 63) (k := 11) (x := "script") (CX := fun _ => L2.CX0) rfl (by decide) (by kernel_rfl) ⟨rfl, by decide, by decide⟩ ?F (fun _ _ _ _ _ z => z)
    intro w mg fa h Y G hmg0
    have hmg : mg ("law" : PySem.Str) = some (.ref fa) := by
      have e : (HandSHeadRun.topDef (OpenLaw.row PySem.Challenge.rw_restsallowed_k03_texts_of_plans).prog 36).name = ("law" : PySem.Str) := by kernel_rfl
      rw [← e]
      exact hmg0
    exact K3.law_at Y G hmg
