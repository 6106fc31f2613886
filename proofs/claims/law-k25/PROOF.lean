import PyProof.Rows.All
import Wide.All
import OpenK.AllK
import Wide.FinOn
import KE.KExcSuper
import HandS.Base
import HandS.Call
import HandS.Ends
import HandS.Exc
import HandS.HeadWalk
import KE.KExcIs
import HandS.ForExc
import HandS.ForMost
import HandS.ExcIs
import HandS.ExcField
import HandS.ExcValue
import HandS.IsInst
import HandS.Lambda
import HandS.Defaults
import HandS.HeadHook2
import HandS.Property
import HandS.Conv
import HandS.TupSets
import HandS.TupLe
import HandS.TupAny
import HandS.Deep
import HandS.Flow
import HandS.OwnEq
import KE.SortData
import PyProof.InstNe
import HandS.CallLocal
import HandS.ExcOwn
import HandS.Walk
import HandS.AnyAll
import HandS.Star
import HandS.Dict
import PyProof.DictUpdate
import KE.KStateDown
import HandS.Words
import HandS.WordsExc
import HandS.Head0
import HandS.Head1
import HandS.Head2
import HandS.HeadEnd
import HandS.HeadHook3
import HandS.Zip
import HandS.DictComp
import PySem.Challenge.RW_restsallowed_k25_across_errors_of_lots_a
set_option Elab.async false
set_option linter.all false
set_option maxRecDepth 100000
set_option maxHeartbeats 4000000
/-! E1: raising an exception of a class whose inherited __init__ is `super().__init__(text); self.F = F`. -/
namespace PySem
namespace EX
open PySem.W PySem.Calls PyProof.Rows PySem.HandSPX
inductive Fk where | part | index
def Fk.name : Fk → Str | .part => "part" | .index => "index"
def Fk.msg : Fk → Str | .part => "a value is not as it should be" | .index => "a list is not as it should be"
def Fk.qual : Fk → Str | .part => "PartError.__init__" | .index => "ItemError.__init__"
def iA (k : Fk) (p1 p2 : Pos) : Arguments := { posonlyargs := [], args := [{ arg := "self", annotation := none, pos := p1 }, { arg := k.name, annotation := none, pos := p2 }], vararg := none, kwonlyargs := [], kw_defaults := [], kwarg := none, defaults := [] }
def iB (k : Fk) (q1 q2 q3 q4 q5 q6 q7 q8 q9 q10 : Pos) : List Stmt :=
  [.Expr (.Call (.Attribute (.Call (.Name "super" q1) [] [] q2) "__init__" q3) [.Constant (.str k.msg) 0 q4] [] q5) q6,
   .Assign [.Attribute (.Name "self" q7) k.name q8] (.Name k.name q9) q10]
def iS (k : Fk) : Scope := { kind := .function, names := [(PySem.Str.ofString "self", .local), (k.name, .local), (PySem.Str.ofString "__class__", .free), (PySem.Str.ofString "super", .globalImplicit)], isGenerator := false, isCoroutine := false, more := [] }
/-- what the written part says of such a class, at C; D: the class that owns the __init__ at fI; cc: its cell; cda: its code -/
structure XTxt (prog : Program) (K : Frag) (k : Fk) (C D fI cc cda : Addr) : Prop where
  cls : ∃ nm q N bs bm sn sub ab col dd k0 k1 k2 k3 k5, K.lookup C = some (excClassObj nm q C N bs bm true sn sub ab col dd k0 k1 k2 k3 k5 "ValueError.__new__") ∧ refsVE bm = true
  sa : findIn K (.ref C) "__setattr__" = some (some (.builtin "object.__setattr__"))
  noN : findIn K (.ref C) k.name = some none
  iC : findIn K (.ref C) "__init__" = some (some (.ref fI))
  tC : typeIn K (.ref fI) = some (.type "function")
  kC : keepIn K (.ref C) = true
  exC : subIn K (.ref C) (.type "BaseException") = some true
  veC : subIn K (.ref C) (.type "ValueError") = some true
  tyC : typeIn K (.ref C) = some (.type "type")
  dC : (clsIn K D).isSome = true
  mD : mroIn K C (.ref D) = some true
  nsu : nsIn K mainGlobals "super" = some none
  tp : nsIn K cStatics "thirdparty.any" = some none
  su : ks_superIn K C D "__init__" = some (some (.builtin "ValueError.__init__"))
  fn : ∃ (oc : Value) (od : Option Addr) (kV doc pm : Value) (an : Option Addr) (ct : Value) (osl : Array (Option Value)) (p1 p2 q1 q2 q3 q4 q5 q6 q7 q8 q9 q10 : Pos),
    K.lookup fI = some ⟨oc, od, .func (ksFn "__init__" k.qual (iA k p1 p2) (iB k q1 q2 q3 q4 q5 q6 q7 q8 q9 q10) (iS k) .none kV doc pm an (.ref cda) ct cc), osl⟩ ∧ codeIn K (.ref cda) k.qual = true ∧ (q3.endLine == q5.line) = true
  code : ∃ (ccl : Value) (cdd : Option Addr) (vs : Array Value) (ccs : Array (Option Value)) (file : Str) (tf : Tok), K.lookup cda = some ⟨ccl, cdd, .fields vs, ccs⟩ ∧ vs[2]? = some (.str file tf) ∧ ((prog.main.file : Str) == file) = true
  cell : ∃ (cl : Value) (cld : Option Addr) (csl : Array (Option Value)), K.lookup cc = some ⟨cl, cld, .cell (some (.ref D)), csl⟩
  top : (prog.main.scope.names.lookup ("super" : Str)).isSome = false
/-- what __init__ leaves of a fresh exception at x -/
structure InitEnd (k : Fk) (h h' : Heap) (x C dx t1 : Addr) (v : Value) : Prop where
  keep : ∀ b o, b ≠ x → h.get? b = some o → h'.get? b = some o
  obj : h'.get? x = some { cls := .ref C, dict := some dx, data := .fields #[.ref t1, .none, .none, .none, .bool false, .none] }
  dbig : h.objs.size ≤ dx
  dne : dx ≠ x
  ns : h'.Ns1 dx (fun y => if y = k.name then some v else none)
/-- a made exception -/
structure OwnMade (k : Fk) (h h' : Heap) (e C d : Addr) (v : Value) : Prop where
  keep : ∀ b o, h.get? b = some o → h'.get? b = some o
  new : h.objs.size ≤ e
  obj : ∃ oe vs, h'.get? e = some oe ∧ oe.cls = .ref C ∧ oe.dict = some d ∧ oe.data = .fields vs ∧ vs[1]? = some .none
  dbig : h.objs.size ≤ d
  dne : d ≠ e
  ns : h'.Ns1 d (fun y => if y = k.name then some v else none)
section
variable {prog : Program} {w : World} {A : Around} {E : Value → Shared → Prop} {h : Heap} {g : Array GenState} {d : Drawn} {t : Nat} {os : OsState}
variable {nm q : Str} {C N : Addr} {bs bm : List Value} {hdct : Bool} {sn : List Str} {sub : List Value} {ab : Bool} {col : Option Bool} {dd : Option Addr} {k0 k1 k2 k3 k5 : Option Value}
/-- the method-wrapper called -/
theorem call_bwV {u e t0 : Addr} {rest : List Value} {Q : Value → Shared → Prop}
    (hC : h.get? C = some (excClassObj nm q C N bs bm hdct sn sub ab col dd k0 k1 k2 k3 k5 "ValueError.__new__")) (he : h.get? e = some (excO C t0)) (hu : h.get? u = some (kxs_mw "ValueError.__init__" e)) (hrest : rest.length ≤ sizeLine)
    (hq : ∀ h' t1, (∀ b o, b ≠ e → h.get? b = some o → h'.get? b = some o) → h'.get? e = some (excO C t1) → Q .none ⟨h', g, d, t, os⟩) :
    wpAny (model prog w) A (call (.ref u) rest) Q E ⟨h, g, d, t, os⟩ := by
  refine wpAny_call (codeAny_of_tree ?_)
  show wpAny _ A.in1 (callAny (.ref u) ⟨rest, []⟩) _ _ _
  simp only [callAny]
  refine wpAny_bind (wpAny_load hu ?_)
  simp only [kxs_mw, show (Value.type "method-wrapper" == Value.type "method" || Value.type "method-wrapper" == Value.type "builtin_function_or_method" || Value.type "method-wrapper" == Value.type "method-wrapper") = true by decide, if_true]
  refine KFB.if_so (by decide) ?_
  refine wpAny_bind (check_bound_init F.excBase_ValueError.toExcCallFacts hC he rfl ?_)
  refine wpAny_bind (wpAny_pure (wpAny_pure ?_))
  refine ⟨plainId_quiet F.excBase_ValueError.init.plain _, codeAny_builtin F.excBase_ValueError.initEntry ?_⟩
  exact exc_init_tree (cls := .ref C) (t0 := t0) (dv := none) (c2 := .none) (c3 := .none) (b4 := .bool false) he hrest fun h' k e' _ => hq h' _ k e'
end
section
variable {prog : Program} {w : World} {A : Around} {E : Value → Shared → Prop} {R : Result → Shared → Prop} {s : Shared} {K : Frag} {mg mb : Str → Option Value} {k : Fk} {C D fI cc cda : Addr}
theorem one_size (v : Value) : [v].length ≤ sizeLine := by
  rw [sizeLine_eq]
  exact (by decide : 1 ≤ 16777216)
theorem ldC {M : Model} {s : Shared} {env : Env} {m : Str → Option Value} {x : Str} {pos : Pos} {v : Value} {Q : Value → Shared → Prop} {A : Around} {E : Value → Shared → Prop} (hn : s.heap.Ns env.locals m) (hv : m x = some v) (h : Q v s)
    (hk : env.scope.kind = .function) (hl : env.kindOf x = some .local) (hd : (x == ("__debug__" : Str)) = false) : wpAny M A (eval (.Name x pos) env) Q E s := wpAny_Name (wpAny_loadName_local hk hl hn hv h) hd
theorem part_init (T : XTxt prog K k C D fI cc cda) {x t0 : Addr} {v : Value} (X : K.In s.heap) (hlim : s.heap.NoLimit) (G : s.heap.Ns mainGlobals mg) (hmg : mg "super" = none) (Bn : s.heap.Ns builtinsNs mb) (hmb : mb "super" = some (.type "super"))
    (hx : s.heap.get? x = some (excO C t0)) (hnx : K.lookup x = none) (hxG : x ≠ mainGlobals) (hxB : x ≠ builtinsNs) (hroom : A.depth < recursionLimit)
    (hq : ∀ h' tk dx t1, InitEnd k s.heap h' x C dx t1 v → R (.ok (.ret .none)) { s with heap := h', toks := tk }) :
    codeAny (model prog w) A (.call (.ref fI) ⟨[.ref x, v], []⟩) R s := by
  obtain ⟨oc, od, kV, doc, pm, an, ct, osl, p1, p2, q1, q2, q3, q4, q5, q6, q7, q8, q9, q10, ho, hcd, hln⟩ := T.fn
  obtain ⟨nm, q, N, bs, bm, sn, sub, ab, col, dd, k0, k1, k2, k3, k5, hC, hbm⟩ := T.cls
  obtain ⟨ccl, cdd, vs, ccs, file, tf, hcode, hvs, hfile⟩ := T.code
  obtain ⟨cl, cld, csl, hcell⟩ := T.cell
  obtain ⟨cdD, hD⟩ := Option.isSome_iff_exists.mp T.dC
  have hcl : clsIn K C = some { name := nm, bases := bs, mro := .ref C :: bm, ns := N, qualname := q, hasDict := true, slotNames := sn, subclasses := sub, abstract := ab, collection := col, hasDel := false } := by unfold clsIn; rw [hC] <;> rfl
  refine ks_codeAny_call_defAt (fd := ksFn "__init__" k.qual (iA k p1 p2) (iB k q1 q2 q3 q4 q5 q6 q7 q8 q9 q10) (iS k) .none kV doc pm an (.ref cda) ct cc) (body := iB k q1 q2 q3 q4 q5 q6 q7 q8 q9 q10) (binds := [("self", .ref x), (k.name, v)])
    hroom (X _ _ ho) rfl hlim (codeRec_of X hcd) rfl (BindsTo.of_eq (by cases k <;> rfl)) (show ∀ x ∈ (iS k).names, x.2 ≠ NameKind.cell from by cases k <;> decide) (locs (by cases k <;> rfl)) (fun h₁ hns kp => ?_) (by cases k <;> rfl) (by cases k <;> rfl) (by cases k <;> rfl)
  obtain ⟨hh, g, d, t, os⟩ := s
  dsimp only at *
  have X₁ : K.In h₁ := X.keeps kp
  have hx₁ := kp _ _ hx
  have I₁ : InstAt h₁ x (excO C t0) C none := ⟨hx₁, rfl, rfl, trivial⟩
  have kG : h₁.Ns mainGlobals mg := by
    obtain ⟨o, es, ep, e, r⟩ := G
    exact ⟨o, es, ep, kp _ _ e, r⟩
  have kB : h₁.Ns builtinsNs mb := by
    obtain ⟨o, es, ep, e, r⟩ := Bn
    exact ⟨o, es, ep, kp _ _ e, r⟩
  obtain ⟨oD, hD1, hD2⟩ : ∃ oD, h₁.get? D = some oD ∧ oD.data = .cls cdD := by
    unfold clsIn at hD
    split at hD
    · rename_i c d' cd' sl ho'
      cases hD
      exact ⟨_, X₁ _ _ ho', rfl⟩
    · cases hD
  -- super().__init__(text)
  show wpAt _ _ _ (execs _ _) _ _ _
  refine ks_wpAt_execs_cons (ks_wpAt_Expr_any (ks_wpAt_MethodCall (pl := L2.plainOf (.Call (.Name "super" q1) [] [] q2) (callEnv (ksFn "__init__" k.qual (iA k p1 p2) (iB k q1 q2 q3 q4 q5 q6 q7 q8 q9 q10) (iS k) .none kV doc pm an (.ref cda) ct cc) hh.objs.size fI)) ?_ ?_) (by cases k <;> rfl) (by cases k <;> rfl))
  · -- the base: super()
    refine ks_wpAt_super_base (f := fI) (cc := cda) (ar := { arg := "self", annotation := none, pos := p1 }) (by cases k <;> rfl) (by cases k <;> rfl) (by decide) rfl (X₁ _ _ ho) rfl rfl rfl (X₁ _ _ hcode) rfl hvs hfile T.top ?_
    refine ks_loadName_global (by cases k <;> rfl) (by cases k <;> rfl) (loadGlobal_builtin kG hmg kB hmb ⟨rfl, ?_⟩)
    refine wpAny_loadName_free (by cases k <;> rfl) (by cases k <;> rfl) rfl ⟨_, X₁ _ _ hcell, rfl⟩ ?_
    refine wpAny_loadName_local (v := .ref x) (by cases k <;> rfl) (by cases k <;> rfl) hns (by cases k <;> rfl) ?_
    refine ks_wpAny_isType_cls hD1 hD2 ⟨rfl, ?_⟩
    refine ks_wpAny_call_super hD1 hD2 hx₁ rfl (fun c e => by cases e) (looks_mroIn X₁ T.mD) (fun h₂ e₂ k₂ => ?_)
    -- .__init__ of it
    have X₂ : K.In h₂ := X₁.keeps k₂
    have hx₂ := k₂ _ _ hx₁
    have hxC : x ≠ C := fun z => by
      have q := hnx
      rw [z, hC] at q
      cases q
    have sub : Looks (model prog w) h₂ (isInstance (.ref x) (.type "ValueError")) true := (InstAt.type (⟨hx₂, rfl, rfl, trivial⟩ : InstAt h₂ x (excO C t0) C none)).andThen (looks_subIn X₂ T.veC)
    have hsu : alongIn K "__init__" (((Value.ref C :: bm).dropWhile (· != .ref D)).drop 1) = some (some (.builtin "ValueError.__init__")) := by
      have q := T.su
      unfold ks_superIn at q
      rw [hcl] at q
      exact q
    refine kxs_getMethod kxs_ValueError e₂ (looks_opaque X₂ T.tp) (fun A Q E s kk q => wpAny_bind ((looks_clsIn X₂ hcl) A _ E s kk (wpAny_pure q))) rfl X₂ hsu sub hxC (by decide) ?_
    -- the call
    have hx₃ : (h₂.push (kxs_mw "ValueError.__init__" x)).get? x = some (excO C t0) := Heap.get?_push_of_some _ hx₂
    refine kxs_callWith (i := "ValueError.__init__") (x := x) rfl ?_
    refine evalArgs_plain ?_
    refine Calls.spliced_cons (Calls.Constant_str (pos := q4) (k := 0) ?_)
    refine Calls.spliced_nil ⟨Heap.get?_push_size _ rfl, ?_⟩
    refine call_bwV (t0 := t0) (Heap.get?_push_of_some _ (X₂ _ _ hC)) hx₃ (Heap.get?_push_size _ rfl) (one_size _) fun h₄ t1 k₄ hx₄ => ?_
    -- self.F = F
    have K4 : ∀ b o, b ≠ x → h₁.get? b = some o → h₄.get? b = some o := fun b o hb e => k₄ b o hb (Heap.get?_push_of_some _ (k₂ _ _ e))
    have X₄ : K.In h₄ := fun a o e => K4 a o (fun z => by rw [z, hnx] at e; cases e) (X₁ a o e)
    have hxL : hh.objs.size ≠ x := Nat.ne_of_gt (Heap.lt_size hx)
    have hn4 : h₄.Ns hh.objs.size fun y => ([("self", Value.ref x), (k.name, v)] : List (Str × Value)).reverse.lookup y := by
      obtain ⟨o, es, ep, e, r⟩ := hns
      exact ⟨o, es, ep, K4 _ _ hxL e, r⟩
    refine ks_wpAt_execs_cons (wpAt_of_wpAny (plainObj_wpAny_Assign_Attribute ?_ ?_))
    · refine ldC (v := v) hn4 (by cases k <;> rfl) (ldC (v := .ref x) hn4 (by cases k <;> rfl) ?_ (by cases k <;> rfl) (by cases k <;> rfl) (by decide)) (by cases k <;> rfl) (by cases k <;> rfl) (by cases k <;> decide)
      refine set_plain X₄ (ox := excO C t1) (od := none) ⟨hx₄, rfl, rfl, trivial⟩ T.sa ?_
      refine exc_osa X₄ hx₄ hcl (show refsVE (.ref C :: bm) = true from hbm) rfl T.noN (fun h₅ tk₅ dx k₅ dn dne hx₅ hn₅ => ?_)
      refine wpAt_of_wpAny (wpAny_execs_nil (hq h₅ tk₅ dx t1 ⟨fun b o hb e => k₅ b o hb (K4 b o hb (kp b o e)), hx₅, ?_, dne, hn₅⟩))
      have z : hh.objs.size < h₄.objs.size := hn4.lt
      exact Nat.le_of_lt (Nat.lt_of_lt_of_le z dn)
    · cases k <;> rfl
  · rw [arm_eval_Call]
    have e : ∀ ov : Value, methodCall (.Call (.Name "super" q1) [] [] q2) "__init__" q3 q5 (callEnv (ksFn "__init__" k.qual (iA k p1 p2) (iB k q1 q2 q3 q4 q5 q6 q7 q8 q9 q10) (iS k) .none kV doc pm an (.ref cda) ct cc) hh.objs.size fI) ov ([Expr.Constant (.str k.msg) 0 q4].length + ([] : List Keyword).length)
        (backTo q5 (starEach [Expr.Constant (.str k.msg) 0 q4] (callEnv (ksFn "__init__" k.qual (iA k p1 p2) (iB k q1 q2 q3 q4 q5 q6 q7 q8 q9 q10) (iS k) .none kV doc pm an (.ref cda) ct cc) hh.objs.size fI))) [] = _ := fun ov => L2.mcall_line rfl hln
    exact congrArg (fun z => attributeBase _ _ _ _ >>= fun ov => standAt q3.atName >>= fun _ => z ov) (funext e)
theorem part_made (T : XTxt prog K k C D fI cc cda) {v : Value} (X : K.In s.heap) (hlim : s.heap.NoLimit) (G : s.heap.Ns mainGlobals mg) (hmg : mg "super" = none) (Bn : s.heap.Ns builtinsNs mb) (hmb : mb "super" = some (.type "super")) (hroom : A.depth + 1 < recursionLimit)
    (hq : ∀ h' tk e d, OwnMade k s.heap h' e C d v → R (.ok (.ret (.ref e))) { s with heap := h', toks := tk }) :
    codeAny (model prog w) A (.call (.ref C) ⟨[v], []⟩) R s := by
  obtain ⟨nm, q, N, bs, bm, sn, sub, ab, col, dd, k0, k1, k2, k3, k5, hC, hbm⟩ := T.cls
  obtain ⟨hp, g, dr, tk, os⟩ := s
  have kk : ∀ b o, hp.get? b = some o → ((hp.push (kdv_tup [v])).push (excO C hp.objs.size)).get? b = some o := fun b o e => Heap.get?_push_of_some _ (Heap.get?_push_of_some _ e)
  have hget : ((hp.push (kdv_tup [v])).push (excO C hp.objs.size)).get? (hp.objs.size + 1) = some (excO C hp.objs.size) := by heap_get
  have ns_lt : ∀ {b : Addr} {m : Str → Option Value}, hp.Ns b m → b < hp.objs.size := fun n => n.lt
  have nsK : ∀ {b : Addr} {m : Str → Option Value}, hp.Ns b m → ((hp.push (kdv_tup [v])).push (excO C hp.objs.size)).Ns b m := fun ⟨o, es, ep, e, r⟩ => ⟨o, es, ep, kk _ _ e, r⟩
  have hnx : K.lookup (hp.objs.size + 1) = none := by
    cases e : K.lookup (hp.objs.size + 1) with
    | none => rfl
    | some o =>
      have z : hp.get? (hp.objs.size + 1) = some o := X _ _ e
      exact absurd (Nat.lt_of_succ_lt (Heap.lt_size z)) (Nat.lt_irrefl _)
  refine call_own F.excBase_ValueError (fun X => refsVE_contains X bm hbm) (X _ _ hC) (looks_findIn X T.iC) (fun self => bind_fn X self T.tC) (one_size v) ?_
  refine part_init (s := ⟨(hp.push (kdv_tup [v])).push (excO C hp.objs.size), g, dr, tk, os⟩) T (X.keeps kk) (hlim.keeps kk) (nsK G) hmg (nsK Bn) hmb hget hnx (Nat.ne_of_gt (Nat.lt_succ_of_lt (ns_lt G))) (Nat.ne_of_gt (Nat.lt_succ_of_lt (ns_lt Bn))) ?_ fun h' tk' dx t1 ⟨k', hx, dn, dne, hns⟩ => ?_
  · show A.depth + 1 < recursionLimit
    exact hroom
  · have old : ∀ b o, hp.get? b = some o → h'.get? b = some o := fun b o e => k' b o (Nat.ne_of_lt (Nat.lt_succ_of_lt (Heap.lt_size e))) (kk b o e)
    have z : hp.objs.size + 1 + 1 ≤ dx := by
      first
        | (simpa only [Heap.size_push] using dn)
        | exact dn
        | (have q := dn; rw [Heap.size_push, Heap.size_push] at q; exact q)
    exact ⟨rfl, hq h' tk' (hp.objs.size + 1) dx ⟨old, Nat.le_succ _, ⟨_, _, hx, rfl, rfl, rfl, rfl⟩, Nat.le_trans (Nat.le_trans (Nat.le_succ _) (Nat.le_succ _)) z, dne, hns⟩⟩
end
end EX
end PySem
set_option maxHeartbeats 4000000
/-! E2: over the layer: raise C(e); try: .. except X as n: y = n, the exception kept as a value; isinstance and fields of such a value. -/
namespace L2
open PySem PySem.Spec PyProof.Rows PySem.EX
/-! ### C(e) -/
def tMkP (k : Fk) (C : Addr) (ta : TA) : St → Hp → XK → Prop := fun σ H Q => ta σ H fun vs H1 => ∃ v, vs = [v] ∧ ∀ d, H1 d = none → Q (.ref C) (some d) (upd H1 d (.xd [(k.name, v)]))
theorem relO_one {v : V} {v' : Value} (n : Str) (r : RelV v v') (f : Str) : RelO (List.lookup f [(n, v)]) (if f = n then some v' else none) := by
  by_cases hw : f = n
  · subst hw
    rw [if_pos rfl]
    have q : List.lookup f [(f, v)] = some v := by simp [List.lookup]
    rw [q]
    exact r
  · rw [if_neg hw]
    have qw : (f == n) = false := by simpa using hw
    have q2 : List.lookup f [(n, v)] = none := by simp [List.lookup, qw]
    rw [q2]
    trivial
section
variable {X : Cx} {kd : Fk} {C D fI cc cda : Addr}
theorem pmk_part {x : Str} {a : Expr} {ta : TA} {p pos : Pos} {k : Nat} (T : XTxt X.prog X.K kd C D fI cc cda) (gC : X.mg x = some (.ref C)) (hr : Room k X.A) (ha : PA X [a] ta) (hg : Gl X x := by rfl) (hdb : (x == ("__debug__" : Str)) = false := by decide)
    (he : starEach (a :: []) X.env = (false, eval a X.env) :: starEach [] X.env := by rfl) (hpl : (backTo pos (starEach [] X.env)).any (·.1) = false := by rfl) :
    PMk X (.Call (.Name x p) [a] [] pos) (tMkP kd C ta) := by
  intro pins s σ H Q I h
  refine wpAny_Call_Name_kw (ld_glob I hg gC ?_ hdb)
  refine PySem.W.callWith_K (h₀ := X.base) I.ok.mod.kin T.kC (thn (ha.run pos pins s σ H _ I h) fun us s1 hh => ?_) he hpl
  obtain ⟨vs, H1, I1, r1, v, ev, q1⟩ := hh
  subst ev
  refine ⟨I1.kIn, ?_⟩
  cases r1 with
  | cons rv rn =>
    rename_i v' us'
    cases rn
    show wpAny _ _ (call (.ref C) [v']) _ _ _
    have hlim := I1.nolimit
    have kIn := I1.kIn
    have G : s1.heap.Ns mainGlobals X.mg := by
      obtain ⟨o, es, ep, e, r⟩ := I1.mod.glob
      exact ⟨o, es, ep, I1.bk _ _ e, r⟩
    have hmg : X.mg "super" = none := PySem.W.mg_none_of kIn G T.nsu
    obtain ⟨mb, hb0, hbb⟩ := I1.mod.blt
    have Bn : s1.heap.Ns builtinsNs mb := by
      obtain ⟨o, es, ep, e, r⟩ := hb0
      exact ⟨o, es, ep, I1.bk _ _ e, r⟩
    have hmb : mb "super" = some (.type "super") := (hbb "super" (by decide)).trans (by decide +kernel)
    obtain ⟨hp, g, dr, tk, os⟩ := s1
    refine wpAny_call (part_made T kIn hlim G hmg Bn hmb (by have := hr.dp; omega) fun h' tk' e d M => ?_)
    show MkP X pins σ Q (.ref e) ⟨h', g, dr, tk', os⟩
    obtain ⟨oe, fv, hoe, hc, hd, hdat, h1⟩ := M.obj
    have hns := M.ns
    obtain ⟨G', g1, g2⟩ := restrict h' fun b => decide (b ≠ e)
    have gk : ∀ b, b ≠ e → G'.get? b = h'.get? b := fun b hb => g1 b (decide_eq_true hb)
    have ge : G'.get? e = none := g2 e (by simp)
    have old : ∀ b o, hp.get? b = some o → G'.get? b = some o := fun b o q => (gk b (Nat.ne_of_lt (Nat.lt_of_lt_of_le (Heap.lt_size q) M.new))).trans (M.keep b o q)
    have ob : ObjOk X.prog X.w (upd H1 d (.xd [(kd.name, v)])) G' d (.xd [(kd.name, v)]) :=
      ⟨_, hns.at (fun o q => (gk d M.dne).trans q), fun f => relO_one kd.name rv f⟩
    have J : Inv X pins σ (upd H1 d (.xd [(kd.name, v)])) ⟨G', g, dr, tk', os⟩ := I1.laid (t' := tk') old M.dbig ob
    refine ⟨e, oe, fv, ⟨G', g, dr, tk', os⟩, _, .ref C, some d, rfl, J, fun b o q => ?_, ge, hoe, ⟨hc, hd⟩, hdat, h1, ?_, rfl, I1.bare, raises_own T.exC T.tyC, q1 d (I1.hok.fresh M.dbig)⟩
    · by_cases hb : b = e
      · have q' : G'.get? b = some o := q
        rw [hb, ge] at q'; cases q'
      · exact (gk b hb).symm.trans q
    · rw [upd_ne (Ne.symm M.dne)]
      exact I1.hok.fresh M.new
/-- raise C(e) -/
def tRaiseP (kd : Fk) (C : Addr) (W : WX) (ta : TA) : TS := fun _ σ H => tMkP kd C ta σ H fun cls d H' => W cls d σ H'
theorem ps_raiseP {x : Str} {a : Expr} {ta : TA} {W : WX} {p pos pos2 : Pos} {k : Nat} (hc : X.calm = true) (T : XTxt X.prog X.K kd C D fI cc cda) (gC : X.mg x = some (.ref C)) (hr : Room k X.A) (tk : Takes X W) (ha : PA X [a] ta) (hg : Gl X x := by rfl) (hdb : (x == ("__debug__" : Str)) = false := by decide)
    (he : starEach (a :: []) X.env = (false, eval a X.env) :: starEach [] X.env := by rfl) (hpl : (backTo pos (starEach [] X.env)).any (·.1) = false := by rfl) :
    PS X (.Raise (some (.Call (.Name x p) [a] [] pos)) none pos2) (tRaiseP kd C W ta) := ps_raise hc tk (pmk_part T gC hr ha hg hdb he hpl)
end
/-! ### an exception held as a value, behind the suite that caught it -/
def ExV (cls : Value) (d : Option Addr) (a : Addr) : HO := .ext fun h => ∃ (oe : Obj) (vs : Array Value), h.get? a = some oe ∧ Zc cls d oe ∧ oe.data = .fields vs
theorem exV_ok {P : Program} {w : World} {H : Hp} {h : Heap} {a : Addr} {cls : Value} {d : Option Addr} {oe : Obj} {vs : Array Value} (e : h.get? a = some oe) (z : Zc cls d oe) (hd : oe.data = .fields vs) : ObjOk P w H h a (ExV cls d a) :=
  ⟨⟨oe, vs, e, z, hd⟩, ⟨oe, e⟩, fun _ _ ⟨o, v, q, r⟩ k => ⟨o, v, k o q, r⟩⟩
section
variable {X : Cx} {pins : List (Addr × Obj)} {σ : St} {H : Hp} {s : Shared}
/-- a pinned object of ours, new since the entry, is tracked from now on -/
theorem Inv.track {a : Addr} {oe : Obj} {vs : Array Value} {cls : Value} {d : Option Addr} (I : Inv X (pins ++ [(a, oe)]) σ H s) (h0 : X.s_0.heap.get? a = none) (hp : ∀ p ∈ X.pn ++ pins, p.1 ≠ a) (hz : Zc cls d oe) (hd : oe.data = .fields vs) :
    Inv X pins σ (upd H a (ExV cls d a)) s := by
  obtain ⟨ha, na, nL, nF, nC⟩ := I.pin (a, oe) (List.mem_append_right _ (List.mem_append_right _ List.mem_cons_self))
  have ha : s.heap.get? a = some oe := ha
  have na : H a = none := na
  have neS : ∀ b u, H b = some u → b ≠ a := fun b u e => ne_of_none e na
  have ne0 : ∀ b o, X.s_0.heap.get? b = some o → b ≠ a := fun b o e z => by rw [z, h0] at e; cases e
  refine ⟨I.ok, I.os, I.bare, ⟨I.base.keep, I.base.slot, fun b o e n hx => ?_, I.base.there, fun b xs e => ?_, fun b o u e => ?_, fun b ps e => ?_⟩, I.loc, I.cell, ?_, fun x c e => ?_, fun p hpp => ?_, fun b u e => ?_, I.len⟩
  · rw [upd_ne (ne0 b o e)]
    exact I.base.free b o e n hx
  · have q := I.base.tups b xs e
    rw [upd_ne (neS b _ q)]
    exact q
  · have q := I.base.frzs b o u e
    rw [upd_ne (neS b _ q)]
    exact q
  · obtain ⟨m, q⟩ := I.base.tbls b ps e
    exact ⟨m, by rw [upd_ne (neS b _ q)]; exact q⟩
  · rw [upd_ne (Ne.symm nL)]
    exact I.free
  · have nc : c ≠ a := fun z => by
      obtain ⟨v, o, ho, hdd⟩ := I.cell x c e
      rw [z, ha] at ho
      cases ho
      exact nC v hdd
    rw [upd_ne nc]
    exact I.freeC x c e
  · obtain ⟨e, n, ne, nf, dd⟩ := I.pin p (by
      rcases List.mem_append.mp hpp with z | z
      · exact List.mem_append_left _ z
      · exact List.mem_append_right _ (List.mem_append_left _ z))
    exact ⟨e, by rw [upd_ne (hp p hpp)]; exact n, ne, nf, dd⟩
  · by_cases hb : b = a
    · rw [hb, upd_same] at e
      cases e
      rw [hb]
      exact exV_ok ha hz hd
    · rw [upd_ne hb] at e
      refine (I.hok b u e).stay (fun c v _ q => q) (fun c q => ?_) fun c xs q => ?_
      · rw [upd_ne (neS c _ q)]
        exact q
      · rw [upd_ne (neS c _ q)]
        exact q
/-- what the clause 'except x as n: y = n' wishes: slot i is n's, slot j is y's -/
def wKeep (K : PySem.W.Frag) (c : Value) (i j : Nat) (Wout : WX) (D : Ends) : WX := fun cls d σ H =>
  ∃ b, PySem.W.exmOne K cls c = some b ∧ (b = true → ∀ a, H a = none → D.nx (((σ.set i (some (.ref a))).set j (some (.ref a))).set i none) (upd H a (ExV cls d a))) ∧ (b = false → Wout cls d σ H)
theorem ps_try_keep {x n y : Str} {c : Value} {i j : Nat} {body : List Stmt} {np pos pos' q1 q2 q3 : Pos} {tb : WX → TS} {Wout : WX} (hs : X.stack = X.env :: X.outer) (hf : X.env.frame = some X.env.locals) (hex : X.ex = []) (hN : X.N.Nodup) (hi : X.N[i]? = some n) (hln : X.env.kindOf n = some .local)
    (hj : X.N[j]? = some y) (hlj : X.env.kindOf y = some .local) (hij : i ≠ j) (hc : Names X x c) (tk : Takes X Wout)
    (hb : ∀ (W : WX) (pn : List (Addr × Obj)) (xe : Value → Shared → Prop), Takes (X.tr pn xe) W → PassesOwn (model X.prog X.w) X.A X.env xe → PSs (X.tr pn xe) body (tb W))
    (hdn : (n == ("__debug__" : Str)) = false := by decide) (hcd : (n == ("__classdict__" : Str)) = false := by decide)
    (hsw : ∀ env' : Env, swapsWith (.Name n q2) (some (.Name y q1)) q3.line env' = pure false := by intro _; rfl) :
    PS X (.Try body [.ExceptHandler (some (.Name x np)) (some n) [.Assign [.Name y q1] (.Name n q2) q3] pos'] [] [] pos) (fun D σ H => tb (wKeep X.K c i j Wout D) D σ H) := by
  refine ⟨fun pins s σ H D I h => ?_⟩
  have ok := I.ok
  have hfr : X.A.frames = some (X.env :: X.outer) := by rw [ok.frames, hs]
  have hloc : Loc X.env.scope n := .inl hln
  have hlocj : Loc X.env.scope y := .inl hlj
  refine wpAny_Try_except ?_
  refine wpAny_mono ((hb (wKeep X.K c i j Wout D) (X.pn ++ pins) (fun e s₁ => wpAny (model X.prog X.w) X.A (noteFrame e X.env) (fun _ s₂ => wpAny (model X.prog X.w) X.A (setFlight e none) (fun _ s₃ =>
    wpAny (model X.prog X.w) X.A (handleBy e X.env [.ExceptHandler (some (.Name x np)) (some n) [.Assign [.Name y q1] (.Name n q2) q3] pos']) (SP X pins D) X.xe s₃) X.xe s₂) X.xe s₁) (fun u s' xx => ?_) PassesOwn.looking).run [] s σ H D (I.toTry _) h) (fun f s1 hsp => ?_) (fun e s1 he => he)
  · -- the catch
    obtain ⟨a, B, sI, pins', σ', H', cls, d, rfl, J', nb, up, sky, na, os, ag, b, hb1, hyes, hno⟩ := xx
    have J : Inv X pins σ' H' sI := J'.ofTry ok
    have sky' : Sky B (X.env :: X.outer) a (Zc cls d) X.env.locals s'.heap := by rw [← hs]; exact sky
    show wpAny (model X.prog X.w) X.A (noteFrame (.ref a) X.env) _ _ _
    refine Sky.land Zc.steady hfr hf sky' fun h3 fl3 up3 => ?_
    have J3 : Inv X pins σ' H' { s' with heap := h3 } := J.landed nb fl3.1 (up.trans up3) os ag
    obtain ⟨oe3, vs3, he3, hz3, hd3⟩ := fl3.there
    have notFr : ∀ {h : Heap} {o : Obj} {vs : Array Value}, h.FunFrames B (X.env :: X.outer) → h.get? a = some o → o.data = .fields vs → a ∉ frs (X.env :: X.outer) := fun {h o vs} ff e dd hm => by
      obtain ⟨_, o', e', hnf⟩ := ff.mem hm
      rw [e] at e'; cases e'
      exact hnf _ dd
    have nfr := notFr fl3.2.2.1 he3 hd3
    have nL : a ≠ X.env.locals := fun z => nfr (List.mem_filterMap.mpr ⟨X.env, List.mem_cons_self, by rw [hf, z]⟩)
    have nF : a ∉ X.fs := fun hm => by
      obtain ⟨e, he, q⟩ := List.mem_filterMap.mp hm
      exact nfr (List.mem_filterMap.mpr ⟨e, List.mem_cons_of_mem _ he, q⟩)
    -- a is new
    have nB : B.get? a = none := fl3.2.1
    have nI : sI.heap.get? a = none := by
      cases e : sI.heap.get? a with
      | none => rfl
      | some o =>
        have z := nb a o e (by rw [hs]; exact nfr)
        rw [nB] at z
        cases z
    have n0 : X.s_0.heap.get? a = none := by
      cases e : X.s_0.heap.get? a with
      | none => rfl
      | some o =>
        obtain ⟨o', z⟩ := J.base.there a o e (by rw [hex]; exact fun z => nomatch z)
        rw [nI] at z
        cases z
    have newp : ∀ p ∈ X.pn ++ pins, p.1 ≠ a := fun p hp z => by
      obtain ⟨e, _⟩ := J.pin p hp
      rw [z, nI] at e
      cases e
    have S3 := J3.suite he3 hd3 na nL nF
    refine wpAny_handleBy_cons (codeAny_handlers_test ?_) (by intro q; cases q)
    have LT : PySem.W.Looks (model X.prog X.w) h3 (typeOf (.ref a)) cls := fun A Q E s k q => wpAny_typeOf_ref (k _ _ he3) (by rw [hz3.1]; exact q)
    have LM := PySem.W.exm_one (M := model X.prog X.w) (J3.kIn) LT hb1
    have test : ∀ {Q : Value → Shared → Prop} {E : Value → Shared → Prop}, Q c { s' with heap := h3 } → wpAny (model X.prog X.w) (X.A.mark (some (.ref a))) (eval (.Name x np) X.env) Q E { s' with heap := h3 } := fun {Q E} q => by
      obtain ⟨hg, hdbg, hm | ⟨hm, hv, hnn⟩⟩ := hc
      · exact ld_glob (X := X.suite a ((a, oe3) :: (X.pn ++ pins))) S3 hg hm q hdbg
      · exact ld_blt (X := X.suite a ((a, oe3) :: (X.pn ++ pins))) S3 hg hm hv q hnn hdbg
    refine test (LM.here ?_)
    cases b with
    | true =>
      refine codeAny_handlers_suite_as ?_
      refine HandSPX.lands_againZ fl3 fun h4 fl4 up4 => ?_
      have J4 : Inv X pins σ' H' { s' with heap := h4 } := J.landed nb fl4.1 ((up.trans up3).trans up4) os ag
      obtain ⟨oe4, vs4, he4, hz4, hd4⟩ := fl4.there
      have S4 := J4.suite he4 hd4 na nL nF
      refine store_ok (X := X.suite a ((a, oe4) :: (X.pn ++ pins))) (v := .ref a) S4 hN hi hloc rfl (fun s5 S5 => ?_) (.inr hln)
      have hiσ : i < σ'.length := by rw [J.len]; exact (List.getElem?_eq_some_iff.mp hi).1
      have suite : PSs (X.suite a ((a, oe4) :: (X.pn ++ pins))) [.Assign [.Name y q1] (.Name n q2) q3] (tAsg (tVar i) (gName j)) :=
        pss_one (ps_set (i := j) hN hj hlocj (pe_var hi (.inl hln) hdn hcd) (hsw _) (.inr hlj))
      refine wpAny_mono (suite.run [] s5 _ H' { nx := fun σ6 H6 => σ6 = (σ'.set i (some (.ref a))).set j (some (.ref a)) ∧ H6 = H', rt := fun _ _ => False } S5 ⟨.ref a, List.getElem?_set_self hiσ, rfl, rfl⟩) (fun f s6 hsp => ?_) (fun _ _ z => False.elim z)
      cases f with
      | next =>
        obtain ⟨σ6, H6, S6, e6, e7⟩ := hsp
        rw [e6, e7] at S6
        have U6 : Inv X (pins ++ [(a, oe4)]) ((σ'.set i (some (.ref a))).set j (some (.ref a))) H' s6 := (S6.unsuite ok).pins_of fun (p : Addr × Obj) (hp : p ∈ pins ++ [(a, oe4)]) => by
          rcases List.mem_append.mp hp with z | z
          · exact (S6.unsuite ok).pin p (List.mem_append_right _ z)
          · have e : p = (a, oe4) := by simpa using z
            subst e
            exact S6.pin (a, oe4) (List.mem_append_left _ List.mem_cons_self)
        refine gone_ok U6 hN hi hln fun s7 J7 => ?_
        exact ⟨_, _, J7.track n0 newp hz4 hd4, hyes rfl a na⟩
      | brk =>
        obtain ⟨σ6, H6, S6, q6⟩ := hsp
        exact q6.elim
      | cont =>
        obtain ⟨σ6, H6, S6, q6⟩ := hsp
        exact q6.elim
      | ret u =>
        obtain ⟨v6, σ6, H6, S6, r6, q6⟩ := hsp
        exact q6.elim
    | false =>
      show wpAny _ X.A (handleBy (.ref a) X.env []) _ _ _
      refine wpAny_handleBy_nil ?_
      obtain ⟨k1, k2, k3, oe, vs, T, oT, ts', he, hz, hd, h1, hr⟩ := id fl3
      unfold PySem.passOn
      refine wpAny_bind (wpAny_field he hd h1 ?_)
      rw [if_neg (show ¬ ((Value.ref T == Value.none) = true) from by simp)]
      have fin : wpAny (model X.prog X.w) X.A (setFlight (.ref a) X.env.frame) (fun _ s4 => wpAny (model X.prog X.w) X.A (throw (.ref a) : Sem Flow) (SP X pins D) X.xe s4) X.xe { s' with heap := h3 } := by
        rw [hf]
        refine HandSPX.setFlight_upZ fl3 fun h4 hh4 up4 => wpAny_throw (tk _ _ ?_)
        exact ⟨a, B, sI, pins, σ', H', cls, d, rfl, J, nb, (up.trans up3).trans up4, .inr (.inr (by rw [hs]; exact hh4)), na, os, ag, hno rfl⟩
      first
        | exact wpAny_bind (wpAny_pure (wpAny_bind fin))
        | exact wpAny_bind fin
  · cases f with
    | next =>
      obtain ⟨σ', H', J', q⟩ := hsp
      exact wpAny_execs_nil ⟨σ', H', J'.ofTry ok, q⟩
    | brk =>
      obtain ⟨σ', H', J', q⟩ := hsp
      exact ⟨σ', H', J'.ofTry ok, q⟩
    | cont =>
      obtain ⟨σ', H', J', q⟩ := hsp
      exact ⟨σ', H', J'.ofTry ok, q⟩
    | ret u =>
      obtain ⟨v, σ', H', J', r, q⟩ := hsp
      exact ⟨v, σ', H', J'.ofTry ok, r, q⟩
end
/-! ### isinstance(e, c), e.f -/
/-- what the class C of such a value must say -/
structure XC (K : PySem.W.Frag) (C : Addr) : Prop where
  ga : PySem.W.findIn K (.ref C) "__getattribute__" = some (some (.builtin "BaseException.__getattribute__"))
  gg : PySem.W.findIn K (.ref C) "__getattr__" = some none
  ex : PySem.W.subIn K (.ref C) (.type "BaseException") = some true
  hd : PySem.W.hasDictIn K C = true
  ha : PySem.W.findIn K (.ref C) "__class__" = some (some (.builtin "object.__class__"))
  hn : PySem.W.specialIn K (.builtin "object.__class__") "__get__" = some (some (.builtin "getset_descriptor.__get__"))
  ht : PySem.W.takesIn K (.builtin "object.__class__") = some true
  hm : PySem.W.mroIn K C (.type "object") = some true
/-- the dict of the exception is told -/
def XD (H : Hp) (d : Option Addr) (fs : List (Str × V)) : Prop := (d = none ∧ fs = []) ∨ ∃ dd, d = some dd ∧ H dd = some (.xd fs)
def rIsX (K : PySem.W.Frag) : List V → Hp → VK → Prop := fun xs H Q => ∃ (a C : Addr) (d : Option Addr) (fs : List (Str × V)) (c : V) (u : Value) (b : Bool), xs = [.ref a, c] ∧ ClsV c u ∧ H a = some (ExV (.ref C) d a) ∧ XD H d fs ∧ XC K C ∧ PySem.W.kitOne K (.ref C) u = some b ∧ Q (.bl b) H
section
variable {X : Cx}
theorem inst_ex {H : Hp} {h : Heap} {P : Program} {w : World} {a C : Addr} {d : Option Addr} {fs : List (Str × V)} (hok : HOk P w H h) (ha : H a = some (ExV (.ref C) d a)) (hd : XD H d fs) : ∃ ox od, PySem.W.InstAt h a ox C od ∧ ∀ v f, fs.lookup f = some v → ∃ u, PySem.W.lookIn f (od.getD ox) = some (some u) ∧ RelV v u ∧ od.isSome = true := by
  obtain ⟨⟨oe, vs, he, hz, hdat⟩, _, _⟩ := hok a _ ha
  have nc : PySem.W.notCls oe = true := by unfold PySem.W.notCls; rw [hdat] <;> rfl
  rcases hd with ⟨e1, e2⟩ | ⟨dd, e1, hdd⟩
  · subst e1 e2
    refine ⟨oe, none, ⟨he, hz.1, nc, by rw [hz.2]; trivial⟩, fun v f e => ?_⟩
    cases e
  · subst e1
    obtain ⟨mA, hns, hr⟩ := hok dd _ hdd
    obtain ⟨od, ho, hl⟩ := lookIn_ns hns
    refine ⟨oe, some od, ⟨he, hz.1, nc, by rw [hz.2]; exact ho⟩, fun v f e => ?_⟩
    obtain ⟨u, hu, ru⟩ := RelO.some_of (v := v) (o := mA f) (by rw [← e]; exact hr f)
    exact ⟨u, by show PySem.W.lookIn f od = _; rw [hl, hu], ru, rfl⟩
theorem call_isX : CallR X (.builtin "isinstance") (rIsX X.K) := by
  intro pins s σ H xs us Q I r h
  obtain ⟨a, C, d, fs, c, u, b, rfl, k, ha, hd, T, e, q⟩ := h
  obtain ⟨u1, u2, rfl, r1, r2⟩ := vals2 r
  have e2 := k.eq r2
  subst e2
  cases (show u1 = Value.ref a from r1)
  obtain ⟨ox, od, J, _⟩ := inst_ex I.hok ha hd
  have hcl : (PySem.W.clsIn X.K C).isSome = true := by
    obtain ⟨cd, hc, _⟩ := PySem.W.any_some T.hd
    rw [hc]
    rfl
  exact PySem.W.kia_one (PySem.W.kitx_exc hcl T.ga T.gg T.ex T.ha T.hn T.ht T.hm) I.kIn J e (fun z => nomatch z) fun tk => ⟨.bl b, H, I.tok tk, rfl, q⟩
/-- isinstance(x, c): x any value, or an exception that is held -/
def rIsA (K : PySem.W.Frag) : List V → Hp → VK → Prop := fun x H Q => rIsX K x H Q ∨ rIsi K x H Q
theorem call_isA : CallR X (.builtin "isinstance") (rIsA X.K) := call_isX.or call_isi
/-- e.f -/
def tXFld (K : PySem.W.Frag) (f : Str) (te : TE) : TE := fun σ H Q => te σ H fun x H1 => ∃ (a C dd : Addr) (fs : List (Str × V)) (v : V), x = .ref a ∧ H1 a = some (ExV (.ref C) (some dd) a) ∧ H1 dd = some (.xd fs) ∧ XC K C ∧ PySem.W.findIn K (.ref C) f = some none ∧ fs.lookup f = some v ∧ Q v H1
theorem pe_xfld {e : Expr} {te : TE} {pos : Pos} {n : Str} (he : PE X e te) (hb : attributeBase e n X.env (eval e X.env) = eval e X.env := by rfl) : PE X (.Attribute e n pos) (tXFld X.K n te) := by
  refine ⟨fun pins s σ H Q I h => ?_⟩
  refine attr_of hb (thn (he.run pins s σ H _ I h) fun u s1 hh => ?_)
  obtain ⟨x, H1, I1, rx, a, C, dd, fs, v, ex, ha, hd, T, hno, l, q⟩ := hh
  subst ex
  obtain rfl : u = Value.ref a := rx
  obtain ⟨⟨oe, vs, he', hz, hdat⟩, _, _⟩ := I1.hok a _ ha
  obtain ⟨mA, hns, hr⟩ := (show ObjOk X.prog X.w H1 s1.heap dd (.xd fs) from I1.hok dd _ hd)
  obtain ⟨od, ho, hl⟩ := lookIn_ns hns
  obtain ⟨u, hu, ru⟩ := RelO.some_of (v := v) (o := mA n) (by rw [← l]; exact hr n)
  have J : PySem.W.InstAt s1.heap a oe C (some od) := ⟨he', hz.1, by unfold PySem.W.notCls; rw [hdat] <;> rfl, by rw [hz.2]; exact ho⟩
  exact HandSPX.exc_get I1.kIn J T.ga T.gg T.ex (PySem.W.findObj_own T.hd hno rfl (by rw [hl, hu])) (handed_of ru) ⟨v, H1, I1.tok _, ru, q⟩
end
end L2
set_option maxHeartbeats 4000000
/-! E3: a lambda handed to a def that calls it in a try, or hands it on. -/
namespace L2
open PySem PySem.Spec PyProof.Rows PySem.EX
open LamX (CodeO ExtN Tabs TabB LamS lamEnv lamCx lam_make2 lam_start2 run_ofS)
/-- what ran since the lambda was made, seen from its maker's frames fs -/
structure Later (fs : List Addr) (s0 : Shared) (H0 : Hp) (outer : List Env) (s : Shared) (H : Hp) : Prop where
  un : Un fs [] H0 H s0.heap s.heap
  fr : ∀ b ∈ frs outer, b ∉ fs → s0.heap.get? b = none
theorem Un.trans2 {fs fs2 : List Addr} {H H1 H2 : Hp} {h h1 h2 : Heap} (a : Un fs [] H H1 h h1) (b : Un fs2 [] H1 H2 h1 h2) (hn : ∀ c ∈ fs2, c ∉ fs → h.get? c = none) : Un fs [] H H2 h h2 where
  keep := fun c o q n hb hx => b.keep c o (a.keep c o q n hb hx) (a.free c o q n hx) (fun z => by rw [hn c z hb] at q; cases q) hx
  slot := fun c o q n hb hx => by
    obtain ⟨sl, e1⟩ := a.slot c o q n hb hx
    obtain ⟨sl', e2⟩ := b.any e1 (a.free c o q n hx) hx
    exact ⟨sl', e2⟩
  free := fun c o q n hx => by
    obtain ⟨o', e1⟩ := a.there c o q hx
    exact b.free c o' e1 (a.free c o q n hx) hx
  there := fun c o q hx => by
    obtain ⟨o', e1⟩ := a.there c o q hx
    exact b.there c o' e1 hx
  tups := fun c xs q => b.tups c xs (a.tups c xs q)
  frzs := fun c o xs q => b.frzs c o xs (a.frzs c o xs q)
  tbls := fun c ps q => by
    obtain ⟨m1, e1⟩ := a.tbls c ps q
    obtain ⟨m2, e2⟩ := b.tbls c _ e1
    exact ⟨m1 ++ m2, by rw [e2, Array.append_assoc]⟩
/-- the callable at f: tl E H Q is what its call asks -/
abbrev TL := XK → Hp → VK → Prop
def Acts (P : Program) (w : World) (K : PySem.W.Frag) (mg : Str → Option Value) (base : Heap) (fs : List Addr) (s0 : Shared) (H0 : Hp) (f c' : Addr) (q : Str) (k : Nat) (tl : TL) : Prop :=
  ∀ (A : Around) (outer : List Env) (s : Shared) (H : Hp) (Q : VK) (E : XK), Later fs s0 H0 outer s H → Room k A → Env0 P w K mg base A outer s H → H c' = some (CodeO c' q) → tl E H Q → codeAny (model P w) A (.call (.ref f) ⟨[], []⟩) (CR (L2.CX P w) outer P w H s Q E) s
section
variable {X : Cx} {pins : List (Addr × Obj)} {σ : St} {H : Hp} {s : Shared}
theorem lam_acts {f c' : Addr} {pm ctv : Value} {params : Arguments} {body : Expr} {scope : Scope} {k : Nat} {t : XK → TE}
    (I : Inv X pins σ H s) (L : LamS X.env.scope scope) (hf : s.heap.get? f = some (PySem.W.kla_obj "<lambda>" (X.env.qual ++ "<lambda>") params body scope (cloFrom X.env.cells scope.names []) pm c' ctv)) (hfn : H f = none) (hfr : f ∉ frs X.stack)
    (hbind : bindArgs (PySem.W.kla_fn "<lambda>" (X.env.qual ++ "<lambda>") params body scope (cloFrom X.env.cells scope.names []) pm (.ref c') ctv) ⟨[], []⟩ = pure [])
    (hbody : ∀ (A : Around) (outer : List Env) (s : Shared) (H : Hp) (E : XK), Room k (A.deeper (lamEnv X scope s.heap.objs.size f c')) → PE (lamCx X A outer s H E scope f c') body (t E)) :
    Acts X.prog X.w X.K X.mg X.base (frs X.stack) s H f c' (X.env.qual ++ "<lambda>") (k + 1) (fun E H' Q => t E σ H' Q) := by
  intro A outer s1 HZ Q E lt hr e0 hc ht
  have of1 : s1.heap.get? f = some (PySem.W.kla_obj "<lambda>" (X.env.qual ++ "<lambda>") params body scope (cloFrom X.env.cells scope.names []) pm c' ctv) := lt.un.keep f _ hf hfn hfr (fun z => nomatch z)
  obtain ⟨⟨oc, vs, tt, hoc, hdc, hvc⟩, _, _⟩ := e0.hok c' _ hc
  have lim : s1.heap.NoLimit := e0.mod.nolimit.keeps fun b o e => (e0.bs b o e).1
  refine PySem.W.kla_callFunE hr.depth of1 rfl L.co L.gen rfl ⟨c', oc, vs, tt, rfl, hoc, hdc, hvc⟩ ?_
  rw [hbind]
  refine wpAny_pure (wpAny_newFunctionEnv (fun y hy => (L.own y hy).2) (fun y hy => absurd hy (by simp)) (fun h₁ hns hsb => ⟨lim.fresh _ hsb, ?_⟩) L.kind)
  show codeAny _ _ (.expr body (lamEnv X scope s1.heap.objs.size f c')) _ _
  have kp : ∀ b o, s1.heap.get? b = some o → h₁.get? b = some o := fun b o e => hsb.extBut b o (Nat.ne_of_lt (Heap.lt_size e)) (Heap.get?_push_of_some _ e)
  have J : Inv (lamCx X A outer s1 HZ E scope f c') [] σ HZ { s1 with heap := h₁, toks := s1.toks + ([] : List (Str × Value)).length } :=
    lam_start2 I L e0 hr.hd lt.un hns kp
  refine PySem.W.kla_codeExpr (wpAny_mono ((hbody _ _ s1 HZ E (hr.deeper _)).run [] _ _ HZ Q J ht) (fun v s' hq => ?_) fun e s' hq => hq)
  obtain ⟨w', H', J', rv, q⟩ := hq
  exact ⟨w', H', J'.os, J'.bare, J'.base, J'.hok, rv, q⟩
end
/-- from a def's body that runs later -/
theorem Later.at_ {fs : List Addr} {s0 : Shared} {H0 : Hp} {CXg : CXT} {P : Program} {w : World} {K : PySem.W.Frag} {mg : Str → Option Value} {base : Heap} {N : List Str} {qg : Str} {sg : Scope} {g : Addr} {cdg : Value} {A : Around} {outer : List Env} {s : Shared} {H : Hp} {E : XK}
    {pn : List (Addr × Obj)} {xe : Value → Shared → Prop} {pins : List (Addr × Obj)} {σ1 : St} {H1 : Hp} {s1 : Shared} (lt : Later fs s0 H0 outer s H) (I : Inv ((cxOf CXg P w K mg base N qg sg g cdg A outer s H E).tr pn xe) pins σ1 H1 s1) :
    Later fs s0 H0 (envOfC qg sg s.heap.objs.size g cdg :: outer) s1 H1 := by
  have u2 : Un (frs outer) [] H H1 s.heap s1.heap := I.base
  have sz : ∀ b o, s0.heap.get? b = some o → ∃ o', s.heap.get? b = some o' := fun b o e => lt.un.there b o e (by simp)
  refine ⟨lt.un.trans2 u2 lt.fr, fun b hb hn => ?_⟩
  have hb' : b = s.heap.objs.size ∨ b ∈ frs outer := by
    have z : b ∈ s.heap.objs.size :: frs outer := hb
    exact List.mem_cons.mp z
  rcases hb' with e | e
  · cases q : s0.heap.get? b with
    | none => rfl
    | some o =>
      obtain ⟨o', z⟩ := sz b o q
      rw [e] at z
      exact absurd (Heap.lt_size z) (Nat.lt_irrefl _)
  · exact lt.fr b e hn
/-- a function object of the maker's, not tracked -/
def FnO (fs : List Addr) (s0 : Shared) (H0 : Hp) (f : Addr) : Prop := ∃ (oc : Value) (od : Option Addr) (fd : FuncData) (sl : Array (Option Value)), s0.heap.get? f = some ⟨oc, od, .func fd, sl⟩ ∧ H0 f = none ∧ f ∉ fs
section
variable {fs : List Addr} {s0 : Shared} {H0 : Hp} {CXg : CXT} {P : Program} {w : World} {K : PySem.W.Frag} {mg : Str → Option Value} {base : Heap} {N : List Str} {qg : Str} {sg : Scope} {g : Addr} {cdg : Value} {A : Around} {outer : List Env} {s : Shared} {H : Hp} {Eg : XK}
  {pn : List (Addr × Obj)} {xe : Value → Shared → Prop}
/-- a(), a the callable that the def got -/
theorem pe_acts {f c' : Addr} {q : Str} {k i : Nat} {tl : TL} {a : Str} {W : WX} {E : XK} {p1 p2 : Pos} (lt : Later fs s0 H0 outer s H) (F : Acts P w K mg base fs s0 H0 f c' q k tl)
    (hf : FnO fs s0 H0 f)
    (tk : Takes ((cxOf CXg P w K mg base N qg sg g cdg A outer s H Eg).tr pn xe) W) (hW : ∀ cls d σ' H', σ'.length = N.length → E cls d H' → W cls d σ' H') (hr : Room k (A.deeper (envOfC qg sg s.heap.objs.size g cdg)))
    (hN : N[i]? = some a) (hv : Vis sg a) (hd : (a == ("__debug__" : Str)) = false := by decide) (hcd : (a == ("__classdict__" : Str)) = false := by decide) :
    PE ((cxOf CXg P w K mg base N qg sg g cdg A outer s H Eg).tr pn xe) (.Call (.Name a p1) [] [] p2) (fun σZ HZ Q => σZ[i]? = some (some (.ref f)) ∧ HZ c' = some (CodeO c' q) ∧ tl E HZ Q) := by
  refine ⟨fun pinsZ sZ σZ HZ Q IZ h => ?_⟩
  obtain ⟨hs, hc, ht⟩ := h
  refine wpAny_Call_Name_kw (thn ((pe_var (pos := p1) (i := i) hN hv hd hcd).run pinsZ sZ σZ HZ (fun v H1 => v = .ref f ∧ H1 = HZ) IZ ⟨.ref f, hs, rfl, rfl⟩) fun u s1 ⟨v, H1, I1, r1, q1⟩ => ?_)
  obtain ⟨ev, eH⟩ := q1
  subst ev
  rw [eH] at I1
  obtain rfl : u = Value.ref f := r1
  have lt1 := lt.at_ I1
  obtain ⟨oc, od, fd, sl, ho, h0, hfs⟩ := hf
  have of1 := lt1.un.keep f _ ho h0 hfs (fun z => nomatch z)
  refine PySem.W.callWith_F0 ⟨_, _, _, _, of1⟩ ?_
  have rc := F _ _ s1 HZ Q E lt1 hr I1.env0 hc ht
  refine wpAny_call (codeAny_mono rc fun r s' hq => ?_)
  cases r with
  | error e =>
    refine tk e s' ?_
    have x := XE.of_call (W := fun c d σ H => σ.length = N.length → W c d σ H) I1 (fun cls d H' h hl => hW cls d σZ H' hl h) hq
    obtain ⟨a', B, sI, pins', σ', H', cls, d, e1, I', nb, up, sky, na, os, ag, w'⟩ := x
    exact ⟨a', B, sI, pins', σ', H', cls, d, e1, I', nb, up, sky, na, os, ag, w' I'.len⟩
  | ok fl =>
    cases fl with
    | ret u => exact I1.after hq
    | next => exact False.elim hq
    | brk => exact False.elim hq
    | cont => exact False.elim hq
end
/-- the def at g takes a callable: TT tl H Q is what its call asks (it lets nothing out) -/
def Takes1 (P : Program) (w : World) (K : PySem.W.Frag) (mg : Str → Option Value) (base : Heap) (g : Addr) (j k : Nat) (TT : TL → Hp → VK → Prop) : Prop :=
  ∀ (fs : List Addr) (s0 : Shared) (H0 : Hp) (f c' : Addr) (q : Str) (tl : TL) (A : Around) (outer : List Env) (s : Shared) (H : Hp) (Q : VK), Acts P w K mg base fs s0 H0 f c' q k tl → FnO fs s0 H0 f →
    Later fs s0 H0 outer s H → Room (j + k) A → Env0 P w K mg base A outer s H → H c' = some (CodeO c' q) → TT tl H Q → codeAny (model P w) A (.call (.ref g) ⟨[.ref f], []⟩) (CR CX0 outer P w H s Q E0) s
theorem ps_exprM {X : Cx} {e : Expr} {te : TE} {pos : Pos} (he : PE X e te) (hs : swapsWith e none pos.line X.env = pure false := by rfl) : PS X (.Expr e pos) (fun D σ H => ∃ Qn : VK, (∀ v H1, Qn v H1 → D.nx σ H1) ∧ te σ H Qn) := by
  refine ⟨fun pins s σ H D I h => ?_⟩
  obtain ⟨Qn, hq, h⟩ := h
  exact wpAny_Expr_any (thn (he.run pins s σ H _ I h) fun u s1 ⟨v, H1, I1, r1, q⟩ => ⟨σ, H1, I1, hq v H1 q⟩) I.quiet hs
/-- try: a() / except x as e: found = e -/
def TCaught (K : PySem.W.Frag) (CS : Addr) : TL → Hp → VK → Prop := fun tl H Q =>
  tl (fun cls d H' => ∃ b, PySem.W.exmOne K cls (.ref CS) = some b ∧ (b = true → ∀ a, H' a = none → Q (.ref a) (upd H' a (ExV cls d a))) ∧ (b = false → False)) H (fun _ H' => Q .non H')
section
variable {P : Program} {w : World} {K : PySem.W.Frag} {mg : Str → Option Value} {base : Heap}
theorem caught_takes {g CS : Addr} {name : Str} {params : Arguments} {body : List Stmt} {scope : Scope} {dV kV doc pm cdv ct oc : Value} {an od : Option Addr} {osl : Array (Option Value)} {k : Nat} {i0 : Nat} {p1 p2 p3 p4 p5 p6 p7 p8 p9 p10 p11 p12 p13 p14 : Pos}
    (lk : K.lookup g = some ⟨oc, od, .func (PySem.W.fnOf name name params body scope dV kV doc pm an cdv ct), osl⟩) (hcd : PySem.W.codeIn K cdv name = true) (S : FnScope ["work", "found", "error"] ["work"] scope)
    (hb : body = [.Assign [.Name "found" p1] (.Constant .none i0 p2) p3, .Try [.Expr (.Call (.Name "work" p4) [] [] p5) p6] [.ExceptHandler (some (.Name "NetError" p7)) (some "error") [.Assign [.Name "found" p8] (.Name "error" p9) p10] p11] [] [] p12, .Return (some (.Name "found" p13)) p14])
    (hbind : ∀ us : List Value, us.length = 1 → bindArgs (PySem.W.fnOf name name params body scope dV kV doc pm an cdv ct) ⟨us, []⟩ = pure ((["work"] : List Str).zip us))
    (h1 : scope.names.lookup ("work" : Str) = some .local) (h2 : scope.names.lookup ("found" : Str) = some .local) (h3 : scope.names.lookup ("error" : Str) = some .local) (hge : scope.names.lookup ("NetError" : Str) = some .globalImplicit) (hme : mg "NetError" = some (.ref CS)) :
    Takes1 P w K mg base g 1 k (TCaught K CS) := by
  intro fs s0 H0 f c' q tl A outer s H Q F hf lt hr e0 hc ht
  have hr1 : Room (k + 1) A := by rw [Nat.add_comm]; exact hr
  refine run_ofS (N := ["work", "found", "error"]) (ps := ["work"]) (us := [.ref f]) (vs := [.ref f]) (k := k) (E := E0) (CX := CX0) lk hcd S hr1 e0 (BindsTo.of_eq (hbind _ rfl)) (.cons rfl .nil) rfl fun hr' => ?_
  subst hb
  refine ⟨_, PSs.nox (pss_cons (ps_set (i := 1) S.nd rfl (.inl h2) pe_non) (pss_cons (ps_try_keep (i := 2) (j := 1) (c := .ref CS) (Wout := fun _ _ _ _ => False)
      (tb := fun W D σ H => ∃ Ech : XK, (∀ cls d σ' H', σ'.length = 3 → Ech cls d H' → W cls d σ' H') ∧ σ[0]? = some (some (.ref f)) ∧ H c' = some (CodeO c' q) ∧ ∃ Qn : VK, (∀ v H1, Qn v H1 → D.nx σ H1) ∧ tl Ech H Qn)
      rfl rfl rfl S.nd rfl h3 rfl h2 (by decide) ⟨hge, by decide, .inl hme⟩ LamX.takes0 (fun W pn xe tk _ => ?_)) (pss_one (ps_ret (pe_var (i := 1) rfl (.inl h2)))))), ?_⟩
  · refine ⟨fun pins s' σ H' D I h' => ?_⟩
    obtain ⟨Ech, hW, q1, q2, Qn, hq, q3⟩ := h'
    have hp := pe_acts (CXg := CX0) (Eg := E0) (i := 0) (p1 := p4) (p2 := p5) (pn := pn) (xe := xe) (E := Ech) lt F hf tk hW hr' rfl (.inl h1)
    exact (pss_one (ps_exprM hp)).run pins s' σ H' D I ⟨Qn, hq, q1, q2, q3⟩
  · refine ⟨fun cls d H' => ∃ b, PySem.W.exmOne K cls (.ref CS) = some b ∧ (b = true → ∀ a, H' a = none → Q (.ref a) (upd H' a (ExV cls d a))) ∧ (b = false → False), fun cls d σ' H' hl h => ?_, rfl, hc, fun _ H' => Q .non H', fun v H1 q => ⟨_, rfl, q⟩, ht⟩
    · obtain ⟨b, e1, e2, e3⟩ := h
      refine ⟨b, e1, fun hb a na => ?_, fun hb => e3 hb⟩
      match σ', hl with
      | [_, _, _], _ => exact ⟨_, rfl, e2 hb a na⟩
end
section
variable {X : Cx}
/-- x(lambda: body) -/
theorem pe_lam1 {T : List (Addr × Str)} {TT : TL → Hp → VK → Prop} {x : Str} {g c Pt : Addr} {j k : Nat} {params : Arguments} {body : Expr} {scope : Scope} {t : XK → TE} {p lpos pos : Pos}
    (G : Takes1 X.prog X.w X.K X.mg X.base g j (k + 1) TT) (hm : X.mg x = some (.ref g)) (hk : PySem.W.keepIn X.K (.ref g) = true) (TB : TabB X.base X.mg c Pt) (hcode : X.env.code = .ref c) (hmT : (Pt, X.env.qual ++ "<lambda>") ∈ T) (hu : ∀ p ∈ T, p.1 = Pt → p.2 = X.env.qual ++ "<lambda>")
    (hr : Room (j + (k + 1)) X.A) (L : LamS X.env.scope scope)
    (hbody : ∀ (A : Around) (outer : List Env) (s : Shared) (H : Hp) (E : XK) (f c' : Addr), Room k (A.deeper (lamEnv X scope s.heap.objs.size f c')) → PE (lamCx X A outer s H E scope f c') body (t E))
    (hg : Gl X x := by rfl) (hdef : defaultsOf params X.env = ([], []) := by rfl)
    (hbind : ∀ (q : Str) (cl : List (Str × Addr)) (pm cv ctv : Value), bindArgs (PySem.W.kla_fn "<lambda>" q params body scope cl pm cv ctv) ⟨[], []⟩ = pure [] := by intros; rfl)
    (hdb : (x == ("__debug__" : Str)) = false := by decide) :
    PE X (.Call (.Name x p) [.Lambda params body scope lpos] [] pos) (LamX.tLam T TT t) := by
  refine ⟨fun pins s σ H Q I h => ?_⟩
  obtain ⟨hT, h⟩ := h
  refine wpAny_Call_Name_kw (ld_glob I hg hm ?_ hdb)
  refine PySem.W.callWith_K (h₀ := X.base) I.ok.mod.kin hk ?_ (by rfl) (by rfl)
  show wpAny _ _ (spliced ((false, eval (.Lambda params body scope lpos) X.env) :: backTo pos (starEach [] X.env))) _ _ s
  refine Calls.spliced_cons (lam_make2 I TB hcode hmT hu hT hdef (L.has I.ok) fun f c' pm' ctv H1 s' I1 eN T1 hf hfn hfr hco => ?_)
  refine Calls.spliced_nil ⟨I1.kIn, ?_⟩
  have F := lam_acts (k := k) (t := t) I1 L hf hfn hfr (hbind _ _ _ _ _) (fun A outer s H E hr2 => hbody A outer s H E f c' hr2)
  have rc : codeAny (model X.prog X.w) X.A (.call (.ref g) ⟨[.ref f], []⟩) (CR CX0 X.stack X.prog X.w H1 s' Q E0) s' :=
    G (frs X.stack) s' H1 f c' _ _ X.A X.stack s' H1 Q F ⟨_, _, _, _, hf, hfn, hfr⟩ ⟨Un.refl, fun b hb hn => absurd hb hn⟩ hr I1.env0 hco (h H1 eN T1)
  refine wpAny_call (codeAny_mono rc fun r s2 hq => ?_)
  cases r with
  | error e => exact (show False from hq).elim
  | ok fl =>
    cases fl with
    | ret u => exact I1.after hq
    | next => exact False.elim hq
    | brk => exact False.elim hq
    | cont => exact False.elim hq
end
end L2
set_option maxHeartbeats 4000000
/-! E4: defs as one fact each. -/
namespace L2
open PySem PySem.Spec PyProof.Rows PySem.EX
/-- a def of the module by its name, with its promise -/
structure Fnc (P : Program) (w : World) (K : PySem.W.Frag) (mg : Str → Option Value) (base : Heap) (CX : CXT) (k : Nat) (x : Str) (ps : List Str) (sp : Sp) : Prop where
  ex : ∃ (f : Addr) (fd : FuncData), FnOk P w K mg base CX k f fd ps sp ∧ mg x = some (.ref f) ∧ PySem.W.keepIn K (.ref f) = true ∧ Binds K fd ps []
/-- what the head tells of a def -/
def Def (K : PySem.W.Frag) (mg : Str → Option Value) (x : Str) (st : Stmt) : Prop := (∃ fd, FunD K x x (defArgs st) (defBody st) (defScope st) [] [] (He.ga K x) fd) ∧ mg x = some (.ref (He.ga K x))
def tFn (sp : Sp) (E : XK) (t : TA) : TE := fun σ H Q => t σ H fun vs H1 => sp vs H1 Q E
section
variable {P : Program} {w : World} {K : PySem.W.Frag} {mg : Str → Option Value} {base : Heap}
/-- THE RULE for a def -/
theorem fnc {CX : CXT} {k : Nat} {x : Str} {st : Stmt} {N ps : List Str} {sp : Sp} (D : Def K mg x st) (S : FnScope N ps (defScope st)) (len : ∀ vs H Q E, sp vs H Q E → vs.length = ps.length)
    (hbind : ∀ (kV doc pm : Value) (an : Option Addr) (cdv ct : Value) (us : List Value), us.length = ps.length → bindArgs (PySem.W.fnOf x x (defArgs st) (defBody st) (defScope st) .none kV doc pm an cdv ct) ⟨us, []⟩ = pure (ps.zip us))
    (hbody : ∀ (cdv : Value) (A : Around) (outer : List Env) (s : Shared) (H : Hp) (vs : List V) (Q : VK) (E : XK), Room k (A.deeper (envOfC x (defScope st) s.heap.objs.size (He.ga K x) cdv)) → sp vs H Q E →
      ∃ t, PSs (cxOf CX P w K mg base N x (defScope st) (He.ga K x) cdv A outer s H E) (defBody st) t ∧ t { nx := fun _ H' => Q .non H', rt := Q } (start N vs) H) : Fnc P w K mg base CX (k + 1) x ps sp := by
  obtain ⟨⟨fd, F⟩, g⟩ := D
  exact ⟨_, fd, F.ok S len hbody, g, F.kp, F.bindsN hbind⟩
/-- .. of a def that lets nothing out -/
theorem fnc0 {k : Nat} {x : Str} {st : Stmt} {N ps : List Str} {sp : Sp} (D : Def K mg x st) (S : FnScope N ps (defScope st)) (len : ∀ vs H Q E, sp vs H Q E → vs.length = ps.length)
    (hbind : ∀ (kV doc pm : Value) (an : Option Addr) (cdv ct : Value) (us : List Value), us.length = ps.length → bindArgs (PySem.W.fnOf x x (defArgs st) (defBody st) (defScope st) .none kV doc pm an cdv ct) ⟨us, []⟩ = pure (ps.zip us))
    (hbody : ∀ (cdv : Value) (A : Around) (outer : List Env) (s : Shared) (H : Hp) (vs : List V) (Q : VK) (E : XK), Room k (A.deeper (envOfC x (defScope st) s.heap.objs.size (He.ga K x) cdv)) → sp vs H Q E →
      ∃ t, PSs (cxOf CX0 P w K mg base N x (defScope st) (He.ga K x) cdv A outer s H E).nox (defBody st) t ∧ t { nx := fun _ H' => Q .non H', rt := Q } (start N vs) H) : Fnc P w K mg base CX0 (k + 1) x ps sp :=
  fnc D S len hbind fun cdv A outer s H vs Q E hr h => by
    obtain ⟨t, h1, h2⟩ := hbody cdv A outer s H vs Q E hr h
    exact ⟨t, h1.nox, h2⟩
end
section
variable {X : Cx} {CX : CXT} {k : Nat} {x : Str} {ps : List Str} {sp : Sp} {E : XK} {p pos : Pos} {e : Expr} {es : List Expr} {t : TA}
theorem pe_fn (F : Fnc X.prog X.w X.K X.mg X.base CX k x ps sp) (hr : Room k X.A) (hx : Passes CX X E) (ha : PA X (e :: es) t) (hg : Gl X x := by rfl) (hdb : (x == ("__debug__" : Str)) = false := by decide)
    (he : starEach (e :: es) X.env = (false, eval e X.env) :: starEach es X.env := by rfl) (hpl : (backTo pos (starEach es X.env)).any (·.1) = false := by rfl) : PE X (.Call (.Name x p) (e :: es) [] pos) (tFn sp E t) := by
  obtain ⟨f, fd, ok, g, kp, b⟩ := F.ex
  have h := pe_call (p := p) (pos := pos) ok hr hg g kp b .nil hx ha hdb he hpl
  refine ⟨fun pins s σ H Q I q => h.run pins s σ H Q I ?_⟩
  show t σ H fun vs H1 => sp (vs ++ []) H1 Q E
  have e0 : (fun (vs : List V) (H1 : Hp) => sp (vs ++ []) H1 Q E) = fun vs H1 => sp vs H1 Q E := by
    funext vs H1
    rw [List.append_nil]
  rw [e0]
  exact q
theorem pe_fn0 (F : Fnc X.prog X.w X.K X.mg X.base CX k x ps sp) (hr : Room k X.A) (hx : Passes CX X E) (hg : Gl X x := by rfl) (hdb : (x == ("__debug__" : Str)) = false := by decide) : PE X (.Call (.Name x p) [] [] pos) (tFn sp E tNil) := by
  obtain ⟨f, fd, ok, g, kp, b⟩ := F.ex
  exact pe_call0 (p := p) (pos := pos) ok hr hg g kp b .nil hx hdb
end
theorem Fnc.imp {P : Program} {w : World} {K : PySem.W.Frag} {mg : Str → Option Value} {base : Heap} {CX : CXT} {k : Nat} {x : Str} {ps : List Str} {sp sp' : Sp} (F : Fnc P w K mg base CX k x ps sp) (h : ∀ vs H Q E, sp' vs H Q E → sp vs H Q E) : Fnc P w K mg base CX k x ps sp' := by
  obtain ⟨f, fd, ok, r⟩ := F.ex
  exact ⟨f, fd, ok.imp h, r⟩
end L2
set_option maxHeartbeats 4000000
/-! E5: the tape of the draws: what it is, the promises of the law's own helpers. -/
namespace L2
open PySem PySem.Spec PyProof.Rows PySem.EX
abbrev kLarge : Key := Sum.inr "large"
abbrev kRest : Key := Sum.inr "rest"
abbrev kCells : Key := Sum.inr "cells"
abbrev kTurn : Key := Sum.inr "turn"
def tapeL (l c : Addr) (r n : Int) : List (Key × V) := [(kLarge, .ref l), (kRest, .int r), (kCells, .ref c), (kTurn, .int n)]
theorem key_ne {a b : Str} (h : a ≠ b) : ¬ (Sum.inr a : Key) = Sum.inr b := fun q => h (Sum.inr.inj q)
theorem sLR : ¬ ("large" : Str) = "rest" := by decide +kernel
theorem sLT : ¬ ("large" : Str) = "turn" := by decide +kernel
theorem sRT : ¬ ("rest" : Str) = "turn" := by decide +kernel
theorem sTR : ¬ ("turn" : Str) = "rest" := by decide +kernel
theorem sCR : ¬ ("cells" : Str) = "rest" := by decide +kernel
theorem sCT : ¬ ("cells" : Str) = "turn" := by decide +kernel
theorem nLR : ¬ kLarge = kRest := key_ne (by decide +kernel)
theorem nLC : ¬ kLarge = kCells := key_ne (by decide +kernel)
theorem nLT : ¬ kLarge = kTurn := key_ne (by decide +kernel)
theorem nRC : ¬ kRest = kCells := key_ne (by decide +kernel)
theorem nRT : ¬ kRest = kTurn := key_ne (by decide +kernel)
theorem nCT : ¬ kCells = kTurn := key_ne (by decide +kernel)
theorem tape_large (l c : Addr) (r n : Int) : valV (tapeL l c r n) kLarge = some (.ref l) := valV_pos rfl
theorem tape_rest (l c : Addr) (r n : Int) : valV (tapeL l c r n) kRest = some (.int r) := (valV_neg nLR).trans (valV_pos rfl)
theorem tape_cells (l c : Addr) (r n : Int) : valV (tapeL l c r n) kCells = some (.ref c) := (valV_neg nLC).trans ((valV_neg nRC).trans (valV_pos rfl))
theorem tape_turn (l c : Addr) (r n : Int) : valV (tapeL l c r n) kTurn = some (.int n) := (valV_neg nLT).trans ((valV_neg nRT).trans ((valV_neg nCT).trans (valV_pos rfl)))
theorem put_rest (l c : Addr) (r n z : Int) : putK (tapeL l c r n) kRest (.int z) = tapeL l c z n := by
  simp [putK, tapeL, sLR, sCR, sTR]
theorem put_turn (l c : Addr) (r n z : Int) : putK (tapeL l c r n) kTurn (.int z) = tapeL l c r z := by
  simp [putK, tapeL, sLT, sRT, sCT]
theorem sLC : ¬ ("large" : Str) = "cells" := by decide +kernel
theorem sRC : ¬ ("rest" : Str) = "cells" := by decide +kernel
theorem merge_tape (l c : Addr) (r n : Int) : mergeK [] (tapeL l c r n) = tapeL l c r n := by
  simp [mergeK, tapeL, putK, sLR, sLT, sRT, sCT, sLC, sRC]
section
variable {H : Hp} {t l c : Addr} {r n : Int}
theorem dg_large (h : H t = some (.dK (tapeL l c r n))) : DGet H t (.str "large") (some (.ref l)) := by rw [← tape_large l c r n]; exact DGet.k (k := kLarge) h
theorem dg_rest (h : H t = some (.dK (tapeL l c r n))) : DGet H t (.str "rest") (some (.int r)) := by rw [← tape_rest l c r n]; exact DGet.k (k := kRest) h
theorem dg_cells (h : H t = some (.dK (tapeL l c r n))) : DGet H t (.str "cells") (some (.ref c)) := by rw [← tape_cells l c r n]; exact DGet.k (k := kCells) h
theorem dg_turn (h : H t = some (.dK (tapeL l c r n))) : DGet H t (.str "turn") (some (.int n)) := by rw [← tape_turn l c r n]; exact DGet.k (k := kTurn) h
theorem dp_rest (z : Int) (h : H t = some (.dK (tapeL l c r n))) : DPut H t (.str "rest") (.int z) (upd H t (.dK (tapeL l c z n))) := by rw [← put_rest l c r n z]; exact DPut.k (k := kRest) h (by show 4 < sizeLine; decide)
theorem dp_turn (z : Int) (h : H t = some (.dK (tapeL l c r n))) : DPut H t (.str "turn") (.int z) (upd H t (.dK (tapeL l c r z))) := by rw [← put_turn l c r n z]; exact DPut.k (k := kTurn) h (by show 4 < sizeLine; decide)
end
/-- the tape stands at t, its large numbers at l, its cells at c -/
structure Tape (H : Hp) (t l c : Addr) : Prop where
  ex : ∃ (r n : Int) (lg cs : List Int), H t = some (.dK (tapeL l c r n)) ∧ H l = some (.lst (lg.map V.int)) ∧ H c = some (.lst (cs.map V.int))
  lc : l ≠ c
theorem Tape.tl {H : Hp} {t l c : Addr} (T : Tape H t l c) : t ≠ l := by
  obtain ⟨r, n, lg, cs, h1, h2, _⟩ := T.ex
  exact ne_of h1 h2 (by intro z; cases z)
theorem Tape.tc {H : Hp} {t l c : Addr} (T : Tape H t l c) : t ≠ c := by
  obtain ⟨r, n, lg, cs, h1, _, h2⟩ := T.ex
  exact ne_of h1 h2 (by intro z; cases z)
/-- all else stands -/
def But (t l : Addr) (H H' : Hp) : Prop := ∀ b o, H b = some o → b ≠ t → b ≠ l → H' b = some o
theorem But.refl {t l : Addr} {H : Hp} : But t l H H := fun _ _ h _ _ => h
theorem But.trans {t l : Addr} {H H1 H2 : Hp} (a : But t l H H1) (b : But t l H1 H2) : But t l H H2 := fun c o h h1 h2 => b c o (a c o h h1 h2) h1 h2
theorem But.of {t l : Addr} {H H' : Hp} (a : Same H H') : But t l H H' := fun c o h _ _ => a c o h
theorem But.free {t l p : Addr} {H H' : Hp} (a : But t l H H') (ht : p ≠ t) (hl : p ≠ l) (h : H' p = none) : H p = none := by
  cases q : H p with
  | none => rfl
  | some o => rw [a p o q ht hl] at h; cases h
theorem But.seq {K : PySem.W.Frag} {t l a : Addr} {H H' : Hp} {xs : List V} (e : But t l H H') (ht : a ≠ t) (hl : a ≠ l) (h : SqL K H a xs) : SqL K H' a xs := by
  rcases h with (h | ⟨o, h⟩) | h
  · exact .inl (.inl (e _ _ h ht hl))
  · exact .inl (.inr ⟨o, e _ _ h ht hl⟩)
  · exact .inr h
theorem Same.upd {H : Hp} {p : Addr} {o : HO} (h : H p = none) : Same H (L2.upd H p o) := fun b u e => by rw [upd_ne (ne_of_none e h)]; exact e
theorem Same.tape {H H' : Hp} {t l c : Addr} (a : Same H H') (T : Tape H t l c) : Tape H' t l c := by
  obtain ⟨r, n, lg, cs, h1, h2, h3⟩ := T.ex
  exact ⟨⟨r, n, lg, cs, a _ _ h1, a _ _ h2, a _ _ h3⟩, T.lc⟩
theorem map_get {α : Type} {f : α → V} {l : List α} {i : Nat} {x : V} (h : (l.map f)[i]? = some x) : ∃ z, l[i]? = some z ∧ x = f z := by
  rw [List.getElem?_map] at h
  cases e : l[i]? with
  | none => rw [e] at h; cases h
  | some z => rw [e] at h; exact ⟨z, rfl, (Option.some.inj h).symm⟩
theorem line1000 {n : Nat} (h : n ≤ 1000) : n ≤ sizeLine := Nat.le_trans h (by decide)
theorem Same.put {H H2 : Hp} {D : Addr} {o : HO} (s : Same H H2) (h : H D = none) : Same H (L2.upd H2 D o) := fun b u e => by rw [upd_ne (ne_of_none e h)]; exact s b u e
theorem Same.free' {H H' : Hp} (e : Same H H') {l : Addr} (h : H' l = none) : H l = none := e.free h
theorem map_snoc {α : Type} {f : α → V} (l : List α) (x : α) : l.map f ++ [f x] = (l ++ [x]).map f := by simp
theorem atI_int {α : Type} {xs : List α} {d : Int} {v : α} (h0 : 0 ≤ d) (h : xs[d.toNat]? = some v) : atI xs d = some v := by
  have e : d = (d.toNat : Int) := by omega
  rw [e]
  exact atI_nat h
theorem erase_permI {α : Type} : ∀ {l : List α} {i : Nat} {z : α}, l[i]? = some z → (z :: l.eraseIdx i).Perm l
  | [], i, z, h => by simp at h
  | a :: l, 0, z, h => by
    have e : a = z := Option.some.inj h
    subst e
    exact .refl _
  | a :: l, i + 1, z, h => by
    have q := erase_permI (l := l) (i := i) (z := z) h
    exact (List.Perm.swap a z _).trans (q.cons a)
theorem perm_erase {α : Type} {l xs f : List α} {i : Nat} {z : α} (h : l[i]? = some z) (p : (f ++ l).Perm xs) : ((f ++ [z]) ++ l.eraseIdx i).Perm xs := by
  have q : (f ++ (z :: l.eraseIdx i)).Perm (f ++ l) := (erase_permI h).append_left f
  rw [List.append_assoc]
  exact q.trans p
theorem map_erase {α β : Type} (f : α → β) : ∀ (l : List α) (i : Nat), (l.map f).eraseIdx i = (l.eraseIdx i).map f
  | [], _ => by simp
  | _ :: _, 0 => rfl
  | a :: l, i + 1 => by
    show f a :: (l.map f).eraseIdx i = f a :: (l.eraseIdx i).map f
    rw [map_erase f l i]
theorem seqIx {d : Int} {n : Nat} (h0 : 0 ≤ d) (h1 : d < n) : seqIndex? d n = some d.toNat := by
  have h : ¬ d < 0 := by omega
  simp [seqIndex?, h, h0, h1]
/-! ### promises -/
def spBegun (K : PySem.W.Frag) : Sp := fun vs H Q _ => ∃ (a : Addr) (ns : List Int), vs = [.ref a] ∧ SqL K H a (ns.map V.int) ∧ ns.length ≤ 63 ∧
  ∀ (t l c : Addr) (H' : Hp), Same H H' → H t = none → H l = none → H c = none → Tape H' t l c → Q (.ref t) H'
def spBlend : Sp := fun vs H Q _ => ∃ (t l c : Addr), vs = [.ref t] ∧ Tape H t l c ∧ ∀ (v : Int) (H' : Hp), Tape H' t l c → (∀ b o, H b = some o → b ≠ t → H' b = some o) → Q (.int v) H'
def spDraw : Sp := fun vs H Q _ => ∃ (t l c : Addr) (m : Int), vs = [.ref t, .int m] ∧ 0 < m ∧ m < 1073741824 ∧ Tape H t l c ∧ ∀ (d : Int) (H' : Hp), 0 ≤ d → d < m → Tape H' t l c → But t l H H' → Q (.int d) H'
def spPick (K : PySem.W.Frag) : Sp := fun vs H Q _ => ∃ (t l c a : Addr) (xs : List V), vs = [.ref t, .ref a] ∧ SqL K H a xs ∧ xs ≠ [] ∧ xs.length < 1073741824 ∧ a ≠ t ∧ a ≠ l ∧ Tape H t l c ∧
  ∀ (i : Nat) (v : V) (H' : Hp), xs[i]? = some v → Tape H' t l c → But t l H H' → Q v H'
def spShuf (K : PySem.W.Frag) : Sp := fun vs H Q _ => ∃ (t l c a : Addr) (xs : List Int), vs = [.ref t, .ref a] ∧ SqL K H a (xs.map V.int) ∧ xs.length < 1000 ∧ Tape H t l c ∧
  ∀ (ys : List Int) (p : Addr) (H' : Hp), ys.Perm xs → H p = none → H' p = some (.lst (ys.map V.int)) → Tape H' t l c → But t l H H' → Q (.ref p) H'
end L2
set_option maxHeartbeats 4000000
/-! E6: data in plain Lean: lists of ints, of texts, of arrows; how they stand in a heap. -/
namespace L2
open PySem PySem.Spec PyProof.Rows PySem.EX
section
variable {α : Type} {f : α → PyData}
theorem lay_map (h : ∀ a, (f a).canLay0 = true) : ∀ l : List α, PyData.canLayAll0 (l.map f) = true
  | [] => rfl
  | a :: l => by rw [List.map_cons, PyData.canLayAll0, h a, lay_map h l] <;> rfl
theorem lay_mem : ∀ {l : List α}, (∀ a ∈ l, (f a).canLay0 = true) → PyData.canLayAll0 (l.map f) = true
  | [], _ => rfl
  | a :: l, h => by rw [List.map_cons, PyData.canLayAll0, h a List.mem_cons_self, lay_mem fun b hb => h b (List.mem_cons_of_mem _ hb)] <;> rfl
theorem dep_map {n : Nat} (h : ∀ a, (f a).depth ≤ n) : ∀ l : List α, PyData.depthAll (l.map f) ≤ n
  | [] => Nat.zero_le _
  | a :: l => by
    rw [List.map_cons, PyData.depthAll]
    exact Nat.max_le.mpr ⟨h a, dep_map h l⟩
theorem eqv_map [DecidableEq α] (h : ∀ a b, (f a).eqv (f b) = decide (a = b)) : ∀ l m : List α, PyData.eqvAll (l.map f) (m.map f) = decide (l = m)
  | [], [] => by simp [PyData.eqvAll]
  | [], _ :: _ => by simp [PyData.eqvAll]
  | _ :: _, [] => by simp [PyData.eqvAll]
  | a :: l, b :: m => by
    rw [List.map_cons, List.map_cons, PyData.eqvAll, h a b, eqv_map h l m]
    by_cases e : a = b <;> by_cases e2 : l = m <;> simp [e, e2]
theorem shaped_of {d : PyData} (h : d.canLay0 = true) (n : d.depth ≤ 64) : SeqAt.shaped d = true := by
  unfold SeqAt.shaped
  rw [h, decide_eq_true n] <;> rfl
end
/-! ### ints -/
theorem eqv_int (i j : Int) : (PyData.int i).eqv (.int j) = decide (i = j) := by
  rw [PyData.eqv, Bool.beq_eq_decide_eq]
theorem eqv_str (i j : Str) : (PyData.str i).eqv (.str j) = decide (i = j) := by
  rw [PyData.eqv, Bool.beq_eq_decide_eq]
theorem eqv_ints (l m : List Int) : (PyData.list (l.map .int)).eqv (.list (m.map .int)) = decide (l = m) := by
  rw [PyData.eqv]
  exact eqv_map eqv_int l m
theorem shaped_ints (l : List Int) : SeqAt.shaped (.list (l.map .int)) = true :=
  shaped_of (by rw [PyData.canLay0]; exact lay_map (fun _ => rfl) l) (by rw [PyData.depth]; exact Nat.succ_le_succ (Nat.le_trans (dep_map (n := 0) (fun _ => Nat.le_refl _) l) (by decide)))
section
variable {K : PySem.W.Frag} {H : Hp}
theorem dp_all {α : Type} {f : α → PyData} {g : α → V} (h : ∀ a, Dp K H (g a) (f a)) : ∀ l : List α, DpAll K H (l.map g) (l.map f)
  | [] => .nil
  | a :: l => .cons (h a) (dp_all h l)
theorem dp_ints {a : Addr} {l : List Int} (h : SqL K H a (l.map V.int)) : Dp K H (.ref a) (.list (l.map .int)) := .lst h (dp_all (fun i => .int i) l)
theorem dp_nil {a : Addr} (h : SqL K H a []) : Dp K H (.ref a) (.list []) := .lst h .nil
end
theorem eqv_nilL (l : List PyData) : (PyData.list l).eqv (.list []) = l.isEmpty := by
  cases l <;> rw [PyData.eqv] <;> simp [PyData.eqvAll]
theorem shaped_nil : SeqAt.shaped (.list []) = true := shaped_of rfl (by decide)
/-! ### texts -/
theorem shaped_strs {l : List Str} (h : ∀ x ∈ l, (PyData.str x).canLay0 = true) : SeqAt.shaped (.list (l.map .str)) = true :=
  shaped_of (by rw [PyData.canLay0]; exact lay_mem h) (by rw [PyData.depth]; exact Nat.succ_le_succ (Nat.le_trans (dep_map (n := 0) (fun _ => Nat.le_refl _) l) (by decide)))
theorem eqv_strs (l m : List Str) : (PyData.list (l.map .str)).eqv (.list (m.map .str)) = decide (l = m) := by
  rw [PyData.eqv]
  exact eqv_map eqv_str l m
theorem dp_strs {K : PySem.W.Frag} {H : Hp} {a : Addr} {l : List Str} (h : SqL K H a (l.map V.str)) : Dp K H (.ref a) (.list (l.map .str)) := .lst h (dp_all (fun i => .str i) l)
/-! ### arrows: triples of ints -/
abbrev Ar := Int × Int × Int
def arL (a : Ar) : List Int := [a.1, a.2.1, a.2.2]
def arD (a : Ar) : PyData := .tuple ((arL a).map .int)
theorem arL_inj {a b : Ar} (h : arL a = arL b) : a = b := by
  obtain ⟨a1, a2, a3⟩ := a
  obtain ⟨b1, b2, b3⟩ := b
  simp [arL] at h
  obtain ⟨h1, h2, h3⟩ := h
  rw [h1, h2, h3]
theorem eqv_ar (a b : Ar) : (arD a).eqv (arD b) = decide (a = b) := by
  unfold arD
  rw [PyData.eqv, eqv_map eqv_int]
  by_cases e : a = b
  · subst e; simp
  · rw [decide_eq_false e, decide_eq_false fun q => e (arL_inj q)]
theorem lay_ar (a : Ar) : (arD a).canLay0 = true := by
  unfold arD
  rw [PyData.canLay0]
  exact lay_map (fun _ => rfl) _
theorem dep_ar (a : Ar) : (arD a).depth ≤ 1 := by
  unfold arD
  rw [PyData.depth]
  exact Nat.succ_le_succ (dep_map (n := 0) (fun _ => Nat.le_refl _) _)
/-- an arrow stands at the value v -/
def ArV (H : Hp) (v : V) (a : Ar) : Prop := ∃ p, v = .ref p ∧ H p = some (.tup ((arL a).map V.int))
abbrev Ars (H : Hp) : List V → List Ar → Prop := Paired (ArV H)
theorem ArV.keep {H H' : Hp} {v : V} {a : Ar} (h : ArV H v a) (k : ∀ b xs, H b = some (.tup xs) → H' b = some (.tup xs)) : ArV H' v a := by
  obtain ⟨p, e, h⟩ := h
  exact ⟨p, e, k _ _ h⟩
theorem Paired.imp {α β : Type} {F G : α → β → Prop} (f : ∀ a b, F a b → G a b) : ∀ {l : List α} {m : List β}, Paired F l m → Paired G l m
  | _, _, .nil => .nil
  | _, _, .cons h t => .cons (f _ _ h) (Paired.imp f t)
theorem Ars.keep {H H' : Hp} {vs : List V} {as : List Ar} (h : Ars H vs as) (k : ∀ b xs, H b = some (.tup xs) → H' b = some (.tup xs)) : Ars H' vs as := Paired.imp (fun _ _ h => h.keep k) h
theorem Same.tups {H H' : Hp} (s : Same H H') : ∀ b xs, H b = some (.tup xs) → H' b = some (.tup xs) := fun b xs e => s b _ e
/-- the tape's writes touch no tuple -/
theorem But.tups {H H' : Hp} {t l c : Addr} (s : But t l H H') (T : Tape H t l c) : ∀ b xs, H b = some (.tup xs) → H' b = some (.tup xs) := fun b xs e => by
  obtain ⟨r, n, lg, cs, h1, h2, _⟩ := T.ex
  exact s b _ e (ne_of e h1 (by intro z; cases z)) (ne_of e h2 (by intro z; cases z))
section
variable {K : PySem.W.Frag} {H : Hp}
theorem ArV.dp {v : V} {a : Ar} (h : ArV H v a) : Dp K H v (arD a) := by
  obtain ⟨p, e, h⟩ := h
  rw [e]
  exact .tup (SqT.of h) (dp_all (fun i => .int i) _)
theorem Ars.dp : ∀ {vs : List V} {as : List Ar}, Ars H vs as → DpAll K H vs (as.map arD)
  | _, _, .nil => .nil
  | _, _, .cons h t => .cons h.dp (Ars.dp t)
end
theorem shaped_ars (as : List Ar) : SeqAt.shaped (.tuple (as.map arD)) = true :=
  shaped_of (by rw [PyData.canLay0]; exact lay_map lay_ar as) (by rw [PyData.depth]; exact Nat.le_trans (Nat.succ_le_succ (dep_map dep_ar as)) (by decide))
theorem shaped_arsL (as : List Ar) : SeqAt.shaped (.list (as.map arD)) = true :=
  shaped_of (by rw [PyData.canLay0]; exact lay_map lay_ar as) (by rw [PyData.depth]; exact Nat.le_trans (Nat.succ_le_succ (dep_map dep_ar as)) (by decide))
theorem eqv_ars (as bs : List Ar) : (PyData.tuple (as.map arD)).eqv (.tuple (bs.map arD)) = decide (as = bs) := by
  rw [PyData.eqv]
  exact eqv_map eqv_ar as bs
theorem Ars.length {H : Hp} {vs : List V} {as : List Ar} (h : Ars H vs as) : vs.length = as.length := Paired.length h
end L2
set_option maxHeartbeats 4000000
/-! E7: sorted of data of any shape, over the layer; arrows in order. -/
namespace L2
open PySem PySem.Spec PyProof.Rows PySem.EX
open PySem.W (EachIs AllAlike Sortable dataLe sorted_data)
/-- sorted(xs): every item with its data -/
def rSortG (K : PySem.W.Frag) : List V → Hp → VK → Prop := fun vs H Q => ∃ (a : Addr) (bs : List (V × PyData)), vs = [V.ref a] ∧ SqL K H a (bs.map (·.1)) ∧ (∀ b ∈ bs, Dp K H b.1 b.2) ∧ AllAlike (bs.map (·.2)) ∧ Sortable (bs.map (·.2)) ∧ (∀ b ∈ bs, b.2.depth ≤ 8) ∧
  ∀ p, H p = none → Q (.ref p) (upd H p (.lst ((bs.mergeSort (dataLe false (·.2))).map (·.1))))
theorem each_vals : ∀ {bs : List (V × PyData)} {us : List Value}, Vals (bs.map (·.1)) us → EachIs (fun v (b : V × PyData) => RelV b.1 v) us bs
  | [], _, r => by
    have r' : Vals [] _ := r
    cases r'
    exact .nil
  | b :: bs, _, r => by
    have r' : Vals (b.1 :: bs.map (·.1)) _ := r
    cases r' with
    | cons h t => exact .cons h (each_vals t)
theorem vals_each : ∀ {bs : List (V × PyData)} {us : List Value}, EachIs (fun v (b : V × PyData) => RelV b.1 v) us bs → Vals (bs.map (·.1)) us
  | _, _, .nil => .nil
  | _, _, .cons h t => .cons h (vals_each t)
theorem each_reads {X : Cx} {pins : List (Addr × Obj)} {σ : St} {H : Hp} {s : Shared} (I : Inv X pins σ H s) : ∀ {bs : List (V × PyData)} {us : List Value}, (∀ b ∈ bs, Dp X.K H b.1 b.2) → Vals (bs.map (·.1)) us → EachIs (fun v (b : V × PyData) => ∃ as, Reads s.heap v b.2 as) us bs
  | [], _, _, r => by
    have r' : Vals [] _ := r
    cases r'
    exact .nil
  | b :: bs, _, h, r => by
    have r' : Vals (b.1 :: bs.map (·.1)) _ := r
    cases r' with
    | cons h1 t => exact .cons (Dp.reads I b.2 b.1 _ (h b List.mem_cons_self) h1) (each_reads I (fun c hc => h c (List.mem_cons_of_mem _ hc)) t)
theorem cr_sortG {X : Cx} (hu : X.A.units + 64 < cLine) : CallR X (.builtin "sorted") (rSortG X.K) := by
  intro pins s σ H vs us Q I r h
  obtain ⟨a, bs, rfl, hs, hd, hal, hso, hdp, q⟩ := h
  obtain ⟨its, rv, hl, hz⟩ := I.list hs
  rw [Vals.ref1 r]
  rw [List.length_map] at hz
  refine sorted_data (R := fun v (b : V × PyData) => RelV b.1 v) (enc := fun b => b.2) hl.isList (each_vals rv) (each_reads I hd rv) hal hso hz (fun b hb => by have := hdp b hb; omega) fun out h1 h2 => ?_
  have h3 := vals_each h2
  obtain ⟨ep, he'⟩ := PyProof.Rows.sortedAll_at s.heap its (List.toArray out)
  have hlen : ((bs.mergeSort (dataLe false fun b => b.2)).map (·.1)).length ≤ sizeLine := by
    rw [List.length_map, List.length_mergeSort]
    exact hz
  exact ⟨.ref _, upd H (s.heap.objs.size + 1) (.lst ((bs.mergeSort (dataLe false fun b => b.2)).map (·.1))), I.laid (t' := s.toks) (fun _ _ => PyProof.Rows.sortedAll_old) (Nat.le_succ _) ⟨hlen, out, ep, h3, he'⟩, rfl, q _ (I.hok.fresh (Nat.le_succ _))⟩
/-! ### arrows in order -/
def lt3 (a b : Ar) : Prop := a.1 < b.1 ∨ (a.1 = b.1 ∧ (a.2.1 < b.2.1 ∨ (a.2.1 = b.2.1 ∧ a.2.2 < b.2.2)))
instance (a b : Ar) : Decidable (lt3 a b) := by unfold lt3; infer_instance
theorem lt3_list (a b : Ar) : arL a < arL b ↔ lt3 a b := by
  unfold arL lt3
  simp [List.cons_lt_cons_iff]
theorem lt3_irr (a : Ar) : ¬ lt3 a a := by unfold lt3; omega
theorem lt3_trans {a b c : Ar} (h1 : lt3 a b) (h2 : lt3 b c) : lt3 a c := by
  unfold lt3 at *
  omega
theorem lt3_tri (a b : Ar) : lt3 a b ∨ a = b ∨ lt3 b a := by
  obtain ⟨a1, a2, a3⟩ := a
  obtain ⟨b1, b2, b3⟩ := b
  unfold lt3
  simp only [Prod.mk.injEq]
  omega
def le3 (a b : Ar) : Bool := !decide (lt3 b a)
theorem dataLe_ar : dataLe false arD = le3 := by
  funext a b
  show (!PySem.W.dataLt (arD b) (arD a)) = _
  unfold arD le3
  rw [PySem.W.dataLt_tuple]
  have e := PySem.W.dataLt_ints (arL b) (arL a)
  unfold PySem.W.rowLt at e
  rw [e]
  by_cases h : arL b < arL a
  · rw [decide_eq_true h, decide_eq_true ((lt3_list b a).mp h)]
  · rw [decide_eq_false h, decide_eq_false fun q => h ((lt3_list b a).mpr q)]
/-- ascending without twins -/
def Asc (as : List Ar) : Prop := as.Pairwise lt3
theorem le3_total (a b : Ar) : (le3 a b || le3 b a) = true := by
  unfold le3
  rcases lt3_tri a b with h | h | h
  · have : ¬ lt3 b a := fun q => lt3_irr _ (lt3_trans h q)
    simp [this]
  · subst h
    simp [lt3_irr]
  · have : ¬ lt3 a b := fun q => lt3_irr _ (lt3_trans h q)
    simp [this]
theorem le3_trans (a b c : Ar) (h1 : le3 a b = true) (h2 : le3 b c = true) : le3 a c = true := by
  unfold le3 at *
  simp only [Bool.not_eq_true', decide_eq_false_iff_not] at *
  unfold lt3 at *
  omega
theorem sort_asc {as : List Ar} (h : as.Nodup) : Asc (as.mergeSort le3) := by
  have hp := List.pairwise_mergeSort (le := le3) le3_trans le3_total as
  have hn : (as.mergeSort le3).Nodup := (List.mergeSort_perm as le3).nodup_iff.mpr h
  have hb : (as.mergeSort le3).Pairwise (fun a b => le3 a b = true ∧ a ≠ b) := hp.and hn
  refine hb.imp fun {a b} hab => ?_
  obtain ⟨h1, h2⟩ := hab
  unfold le3 at h1
  simp only [Bool.not_eq_true', decide_eq_false_iff_not] at h1
  rcases lt3_tri a b with z | z | z
  · exact z
  · exact absurd z h2
  · exact absurd z h1
theorem sort_idA {as : List Ar} (h : Asc as) : as.mergeSort le3 = as := by
  refine List.mergeSort_of_pairwise (h.imp fun {a b} hab => ?_)
  unfold le3
  rw [decide_eq_false fun q => lt3_irr _ (lt3_trans hab q)]
  rfl
theorem alike_ar (a b : Ar) : PySem.W.alike (arD a) (arD b) = true := by
  unfold arD
  rw [PySem.W.alike]
  exact PySem.W.alike_ints _ _
theorem Ars.get {H : Hp} : ∀ {vs : List V} {as : List Ar} {i : Nat} {v : V}, Ars H vs as → vs[i]? = some v → ∃ a, as[i]? = some a ∧ ArV H v a
  | _, _, _, _, .nil, e => by simp at e
  | _, _, 0, _, .cons h _, e => ⟨_, rfl, by rw [← Option.some.inj e]; exact h⟩
  | _, _, i + 1, v, .cons _ t, e => by
    obtain ⟨a, h1, h2⟩ := Ars.get (i := i) (v := v) t (by simpa using e)
    exact ⟨a, by simpa using h1, h2⟩
theorem ars_zip {H : Hp} : ∀ {vs : List V} {as : List Ar}, Ars H vs as → ∃ l : List (V × Ar), l.map (·.1) = vs ∧ l.map (·.2) = as ∧ ∀ p ∈ l, ArV H p.1 p.2
  | _, _, .nil => ⟨[], rfl, rfl, fun _ h => nomatch h⟩
  | v :: vs, a :: as, .cons h t => by
    obtain ⟨l, e1, e2, e3⟩ := ars_zip t
    refine ⟨(v, a) :: l, by rw [List.map_cons, e1], by rw [List.map_cons, e2], fun p hp => ?_⟩
    rcases List.mem_cons.mp hp with e | hp
    · subst e; exact h
    · exact e3 p hp
theorem ars_of {H : Hp} : ∀ {l : List (V × Ar)}, (∀ p ∈ l, ArV H p.1 p.2) → Ars H (l.map (·.1)) (l.map (·.2))
  | [], _ => .nil
  | p :: l, h => .cons (h p List.mem_cons_self) (ars_of fun q hq => h q (List.mem_cons_of_mem _ hq))
/-- sorted(xs), xs a list of arrows -/
def rSortA (K : PySem.W.Frag) : List V → Hp → VK → Prop := fun vs H Q => ∃ (a : Addr) (xs : List V) (as : List Ar), vs = [V.ref a] ∧ SqL K H a xs ∧ Ars H xs as ∧ ∀ p ys, H p = none → Ars H ys (as.mergeSort le3) → Q (.ref p) (upd H p (.lst ys))
theorem cr_sortA {X : Cx} (hu : X.A.units + 64 < cLine) : CallR X (.builtin "sorted") (rSortA X.K) := by
  intro pins s σ H vs us Q I r h
  obtain ⟨a, xs, as, rfl, hs, ha, q⟩ := h
  obtain ⟨l, e1, e2, e3⟩ := ars_zip ha
  refine cr_sortG hu pins s σ H [.ref a] us Q I r ⟨a, l.map (fun p => (p.1, arD p.2)), rfl, ?_, fun b hb => ?_, ?_, ?_, fun b hb => ?_, fun p hp => ?_⟩
  · rw [List.map_map]
    have e : ((fun b : V × PyData => b.1) ∘ fun p : V × Ar => (p.1, arD p.2)) = fun p => p.1 := rfl
    rw [e, e1]
    exact hs
  · obtain ⟨p, hp, rfl⟩ := List.mem_map.mp hb
    exact (e3 p hp).dp
  · rw [List.map_map]
    exact AllAlike.of fun b b' => alike_ar _ _
  · rw [List.map_map]
    exact Sortable.tuples fun b => ⟨_, _, rfl⟩
  · obtain ⟨p, hp, rfl⟩ := List.mem_map.mp hb
    exact Nat.le_trans (dep_ar p.2) (by decide)
  · have m1 : (l.mergeSort fun p q => le3 p.2 q.2).map (fun p : V × Ar => (p.1, arD p.2)) = (l.map fun p => (p.1, arD p.2)).mergeSort (dataLe false fun b : V × PyData => b.2) := by
      refine List.map_mergeSort fun p _ q _ => ?_
      show le3 p.2 q.2 = dataLe false arD p.2 q.2
      rw [dataLe_ar]
    have m2 : (l.mergeSort fun p q => le3 p.2 q.2).map (fun p : V × Ar => p.2) = (l.map fun p => p.2).mergeSort le3 := List.map_mergeSort fun p _ q _ => rfl
    rw [← m1, List.map_map]
    refine q p _ hp ?_
    rw [← e2, ← m2]
    exact ars_of fun p hp => e3 p ((List.mergeSort_perm l _).mem_iff.mp hp)
end L2
set_option maxHeartbeats 4000000
/-! E8: == and != of two instances by their own __eq__, whatever it answers. -/
namespace PySem.W
open PySem.Builtin
section
variable {prog : Program} {w : World} {A : Around} {E : Value → Shared → Prop} {s : Shared} {K : Frag} {x C f : Addr} {ox : Obj} {od : Option Obj}
theorem check_slot_K {id owner n : String} {rest : List Value} {Q : Unit → Shared → Prop} {M : Model} (hk : builtinKind id = some .slot) (hs : splitId id = some (owner, n)) (ha : argsOk id ⟨.ref x :: rest, []⟩)
    (X : K.In s.heap) (I : InstAt s.heap x ox C od) (ho : subIn K (.ref C) (.type owner) = some true) (hq : Q () s) : wpAny M A (checkBuiltinCall id ⟨.ref x :: rest, []⟩) Q E s := by
  simp only [checkBuiltinCall, hk, hs]
  refine wpAny_bind ?_
  unfold isInstance
  refine wpAny_bind (I.type.here ((looks_subIn X ho).here ?_))
  simp only [Bool.not_true, Bool.false_eq_true, if_false]
  try refine wpAny_bind (wpAny_pure ?_)
  cases hsig : Manifest.signature? id with
  | none =>
    simp only [hsig]
    exact wpAny_pure hq
  | some sig =>
    simp only [argsOk, hsig] at ha
    have h2 : Bind.checkArgs id sig ⟨.ref x :: rest, []⟩ = pure () := ha
    show wpAny M A (Bind.checkArgs id sig ⟨.ref x :: rest, []⟩) Q E _
    rw [h2]; exact wpAny_pure hq
theorem objNe_K {y : Value} (X : K.In s.heap) (I : InstAt s.heap x ox C od) (he : findIn K (.ref C) "__eq__" = some (some (.ref f))) (hf : isFn K (.ref f) = true) (hu : A.units < cLine) {Q : Fin → Shared → Prop}
    (hcall : wpAny (model prog w) A (call (.ref f) [.ref x, y]) (fun v s' => ∃ b, v = .bool b ∧ Q (.done (.ret (.bool (!b)))) s') E s) : wpAny (model prog w) A (Builtin.«object.__ne__» ⟨[.ref x, y], []⟩) Q E s := by
  obtain ⟨h, g, d, t, os⟩ := s
  unfold Builtin.«object.__ne__»
  repeat (first
    | with_reducible refine wpAny_cRoomFor hu ?_
    | (refine wpAny_bind (m := callSpecialIfBound? (.ref x) (Str.ofString "__eq__") [y])
        (ifBound_K X I he hf (wpAny_mono hcall (fun r s' hr => by
          obtain ⟨b, rfl, hq⟩ := hr
          repeat (first | exact hq | exact wpAny_pure hq | exact wpAny_truthy_bool hq | (refine wpAny_bind (m := truthy (.bool _)) (wpAny_truthy_bool ?_)) | wp_step)) fun _ _ e => e)))
    | wp_step)
theorem ne_K {y : Addr} {oy : Obj} {ody : Option Obj} (X : K.In s.heap) (I : InstAt s.heap x ox C od) (J : InstAt s.heap y oy C ody) (he : findIn K (.ref C) "__eq__" = some (some (.ref f))) (hf : isFn K (.ref f) = true)
    (hn : findIn K (.ref C) "__ne__" = some (some (.builtin "object.__ne__"))) (hob : subIn K (.ref C) (.type "object") = some true) (hu : A.units + 1 < cLine) {Q : Value → Shared → Prop}
    (hcall : wpAny (model prog w) A.in1 (call (.ref f) [.ref x, .ref y]) (fun v s' => ∃ b, v = .bool b ∧ Q (.bool (!b)) s') E s) : wpAny (model prog w) A (richCompare .NotEq (.ref x) (.ref y)) Q E s := by
  unfold richCompare
  simp only [oneThing_ref]
  refine wpAny_holding (wpAny_bind (wpAny_cRoomFor (Nat.lt_of_succ_lt hu) ?_))
  rw [cmpInfo_NotEq]
  dsimp only
  refine wpAny_bind (I.type.here (wpAny_bind (J.type.here ?_)))
  rw [show (Value.ref C != Value.ref C) = false from by simp]
  simp only [Bool.false_eq_true, if_false]
  refine wpAny_bind (wpAny_pure ?_)
  simp only [Bool.false_eq_true, if_false]
  have one : wpAny (model prog w) A (tryCompare (.ref x) "__ne__" (.ref y)) (fun r s' => ∃ b, r = some (.bool b) ∧ Q (.bool b) s') E s := by
    unfold tryCompare
    refine wpAny_bind ?_
    simp only [callSpecialIfBound?, bindSpecialIfBound?]
    refine wpAny_holding (wpAny_bind (wpAny_bind (wpAny_bind (I.type.here ((looks_findIn X hn).here ?_)))))
    refine wpAny_bind (wpAny_askSetting (wpAny_ite ?_))
    have fin : ∀ post : Option Value → Shared → Prop, (∀ b s', Q (.bool b) s' → post (some (.bool b)) s') → wpAny (model prog w) A (call (.builtin "object.__ne__") ([.ref x] ++ [.ref y]) >>= fun v => pure (some v)) post E s := by
      intro post hp
      refine wpAny_bind (wpAny_call (codeAny_call_builtin F.cmp_object.ne.plain F.cmpEntry_ne (check_slot_K F.cmpKind_ne F.cmpSplit_ne (F.cmpArgs_ne _ _) X I hob (objNe_K (A := A.in1) X I he hf hu (wpAny_mono hcall (fun v s' hv => ?_) fun _ _ e => e)))))
      obtain ⟨b, rfl, hq⟩ := hv
      exact ⟨b, rfl, wpAny_pure (hp _ _ hq)⟩
    split
    · rw [F.cmp_object.ne.bind]
      exact wpAny_bind (wpAny_pure (wpAny_pure (fin _ fun b s' hq => wpAny_pure ⟨_, rfl, hq⟩)))
    · rw [F.cmp_object.ne.bind]
      exact wpAny_tryCatch (wpAny_bind (wpAny_pure (wpAny_pure (fin _ fun b s' hq => wpAny_pure ⟨_, rfl, hq⟩))))
  refine wpAny_bind (wpAny_mono one (fun r s' z => ?_) fun _ _ e => e)
  obtain ⟨v, rfl, hq⟩ := z
  exact wpAny_pure hq
end
end PySem.W
namespace L2
open PySem PySem.Spec PyProof.Rows PySem.EX
section
variable {X : Cx} {n : Nat}
/-- x == y, x != y by the own __eq__ whose promise is sp -/
def rEqI (C : Addr) (sp : Sp) (E : XK) (neg : Bool) : R2 := fun x y H Q => ∃ a b dx dy fs gs, x = .ref a ∧ y = .ref b ∧ H a = some (.ins C dx fs) ∧ H b = some (.ins C dy gs) ∧ sp [x, y] H (fun v H' => ∃ c, v = .bl c ∧ Q (.bl (c != neg)) H') E
theorem op_neI {CX : CXT} {C f : Addr} {fd : FuncData} {ps : List Str} {sp : Sp} {E : XK} (F : FnOk X.prog X.w X.K X.mg X.base CX n f fd ps sp)
    (hs : PySem.W.findIn X.K (.ref C) "__eq__" = some (some (.ref f))) (hf : PySem.W.isFn X.K (.ref f) = true) (hn : PySem.W.findIn X.K (.ref C) "__ne__" = some (some (.builtin "object.__ne__")))
    (hob : PySem.W.subIn X.K (.ref C) (.type "object") = some true) (hb : Binds X.K fd ps []) (hx : Passes CX X E) (hr : Room (n + 1) X.A) : OpR X (compareOp .NotEq) (rEqI C sp E true) := by
  intro pins s σ H x y v u Q I rx ry hq
  obtain ⟨a, b, dx, dy, fs, gs, rfl, rfl, ha, hb', q⟩ := hq
  cases rx
  cases ry
  obtain ⟨mA, J, _⟩ := ins_get I.hok ha
  obtain ⟨mB, J', _⟩ := ins_get I.hok hb'
  obtain ⟨od, J, _⟩ := J.look
  obtain ⟨od', J', _⟩ := J'.look
  show wpAny (model X.prog X.w) X.A (richCompare .NotEq _ _) (EP X pins σ Q) X.xe s
  refine PySem.W.ne_K I.kIn J J' hs hf hn hob hr.in1.units0 ?_
  have hl := F.len _ _ _ _ q
  have r2 : Vals [V.ref a, V.ref b] [Value.ref a, Value.ref b] := .cons rfl (.cons rfl .nil)
  have e0 : Env0 X.prog X.w X.K X.mg X.base X.A.in1 X.stack s H := by
    have e := I.env0
    exact ⟨e.frames, e.mod, e.bs, e.bsz, e.funs, e.frf, e.hok, e.bare⟩
  refine wpAny_call (codeAny_mono (F.run X.A.in1 X.stack s H ⟨[.ref a, .ref b], []⟩ [.ref a, .ref b] [.ref a, .ref b] _ E hr.in1 e0 (by
    have := hb s [.ref a, .ref b] I.kIn (by simpa using hl)
    simpa using this) r2 q) fun r s' hq => ?_)
  cases r with
  | error e => exact hx pins σ H s e s' I hq
  | ok fl =>
    cases fl with
    | ret w =>
      obtain ⟨z, H', I', rz, c, ez, q'⟩ := I.after hq
      subst ez
      cases rz
      refine ⟨c, rfl, .bl (!c), H', I', rfl, ?_⟩
      have e : (c != true) = !c := by cases c <;> rfl
      rw [← e]
      exact q'
    | next => exact False.elim hq
    | brk => exact False.elim hq
    | cont => exact False.elim hq
end
end L2
set_option maxHeartbeats 4000000
/-! E9: f(k = v): a def called by keywords alone. -/
namespace L2
open PySem PySem.Spec PyProof.Rows PySem.EX
section
variable {X : Cx} {CX : CXT} {k : Nat} {f : Addr} {fd : FuncData} {ps ks : List Str} {sp : Sp} {E : XK} {x : Str} {p pos : Pos} {kws : List Keyword} {tk : TA} {g : List Value → List Value → List Value} {gV : List V → List V → List V}
theorem pe_callN0 (F : FnOk X.prog X.w X.K X.mg X.base CX k f fd ps sp) (hr : Room k X.A) (hg : Gl X x) (hm : X.mg x = some (.ref f)) (hk : PySem.W.keepIn X.K (.ref f) = true) (hb : KBn X.K fd ps 0 ks g gV) (hx : Passes CX X E)
    (hkw : PK X kws tk) (hall : (backToKw pos (keywordEach kws X.env)).all (·.1.isSome) = true := by rfl) (hks : (backToKw pos (keywordEach kws X.env)).filterMap (·.1) = ks := by rfl)
    (hdb : (x == ("__debug__" : Str)) = false := by decide)
    (hpl : ((backTo pos (starEach [] X.env)).any (·.1) || (backToKw pos (keywordEach kws X.env)).any (·.1.isNone)) = false := by rfl) :
    PE X (.Call (.Name x p) [] kws pos) (tCallN 0 ks.length sp gV E tNil tk) := by
  refine ⟨fun pins s σ H Q I h => ?_⟩
  refine wpAny_Call_Name_kw (ld_glob I hg hm ?_ hdb)
  refine PySem.W.callWith_KW0 (h₀ := X.base) I.ok.mod.kin hk hall ?_ hpl
  refine thn (hkw.run pos pins s σ H _ I h) fun ws s2 ⟨zs, H2, I2, rz, l1, l2, q2⟩ => ⟨I2.kIn, ?_⟩
  rw [hks]
  exact run_fnN (us := []) (vs := []) F hr hb hx I2 .nil rz rfl l2 q2
end
/-- a def of one parameter, called with it by its name -/
structure Kw1 (P : Program) (w : World) (K : PySem.W.Frag) (mg : Str → Option Value) (base : Heap) (CX : CXT) (k : Nat) (x y : Str) (sp : Sp) : Prop where
  ex : ∃ (f : Addr) (fd : FuncData), FnOk P w K mg base CX k f fd [y] sp ∧ mg x = some (.ref f) ∧ PySem.W.keepIn K (.ref f) = true ∧ KBn K fd [y] 0 [y] (fun us ws => us ++ ws) (fun vs zs => vs ++ zs)
def tKw1 (sp : Sp) (E : XK) (t : TE) : TE := fun σ H Q => t σ H fun v H1 => sp [v] H1 Q E
theorem pe_kw1 {X : Cx} {CX : CXT} {k : Nat} {x y : Str} {sp : Sp} {E : XK} {e : Expr} {t : TE} {p pos kp : Pos} (F : Kw1 X.prog X.w X.K X.mg X.base CX k x y sp) (hr : Room k X.A) (hx : Passes CX X E) (ha : PE X e t) (hg : Gl X x := by rfl) (hdb : (x == ("__debug__" : Str)) = false := by decide)
    (hall : (backToKw pos (keywordEach [⟨some y, e, kp⟩] X.env)).all (·.1.isSome) = true := by rfl) (hks : (backToKw pos (keywordEach [⟨some y, e, kp⟩] X.env)).filterMap (·.1) = [y] := by rfl)
    (hpl : ((backTo pos (starEach [] X.env)).any (·.1) || (backToKw pos (keywordEach [⟨some y, e, kp⟩] X.env)).any (·.1.isNone)) = false := by rfl) : PE X (.Call (.Name x p) [] [⟨some y, e, kp⟩] pos) (tKw1 sp E t) := by
  obtain ⟨f, fd, ok, g, kp', b⟩ := F.ex
  have h := pe_callN0 (p := p) (pos := pos) ok hr hg g kp' b hx (pk_cons (kpos := kp) (nm := some y) ha pk_nil) hall hks hdb hpl
  refine ⟨fun pins s σ H Q I q => h.run pins s σ H Q I ?_⟩
  have q' : t σ H fun v H1 => sp [v] H1 Q E := q
  exact (show tCallN 0 1 sp (fun vs zs => vs ++ zs) E tNil (tCons t tNil) σ H Q from by
    show t σ H fun v H1 => _
    have e : (fun (v : V) (H1 : Hp) => sp [v] H1 Q E) = fun v H1 => (0 = 0 ∧ 1 = 1 ∧ sp [v] H1 Q E) := by
      funext v H1
      simp
    rw [e] at q'
    exact q')
theorem kw1 {P : Program} {w : World} {K : PySem.W.Frag} {mg : Str → Option Value} {base : Heap} {CX : CXT} {k : Nat} {x y : Str} {sp : Sp} {f : Addr} {st : Stmt} {fd : FuncData} (ok : FnOk P w K mg base CX k f fd [y] sp)
    (F : FunD K x x (defArgs st) (defBody st) (defScope st) [] [] f fd) (g : mg x = some (.ref f))
    (h : ∀ (kV doc pm : Value) (an : Option Addr) (cdv ct w : Value), bindArgs (PySem.W.fnOf x x (defArgs st) (defBody st) (defScope st) .none kV doc pm an cdv ct) ⟨[], [(y, w)]⟩ = pure [(y, w)]) : Kw1 P w K mg base CX k x y sp := by
  refine ⟨f, fd, ok, g, F.kp, ?_⟩
  obtain ⟨oc, od, dV, kV, doc, pm, an, cdv, ct, osl, rfl, lk, hcd, hD, hK⟩ := F.ex
  refine ⟨fun s us ws X l1 l2 => ?_, fun r z => r.append z⟩
  rcases hD with ⟨_, rfl⟩ | ⟨e, _⟩
  · match us, ws, l1, l2 with
    | [], [w], _, _ => exact .of_eq (h kV doc pm an cdv ct w)
  · exact absurd rfl e
/-- Fnc with the def's own record told -/
def FncX (P : Program) (w : World) (K : PySem.W.Frag) (mg : Str → Option Value) (base : Heap) (CX : CXT) (k : Nat) (x : Str) (st : Stmt) (ps : List Str) (sp : Sp) : Prop :=
  ∃ fd, FnOk P w K mg base CX k (He.ga K x) fd ps sp ∧ FunD K x x (defArgs st) (defBody st) (defScope st) [] [] (He.ga K x) fd ∧ mg x = some (.ref (He.ga K x)) ∧ Binds K fd ps []
theorem FncX.fnc {P : Program} {w : World} {K : PySem.W.Frag} {mg : Str → Option Value} {base : Heap} {CX : CXT} {k : Nat} {x : Str} {st : Stmt} {ps : List Str} {sp : Sp} (F : FncX P w K mg base CX k x st ps sp) : Fnc P w K mg base CX k x ps sp := by
  obtain ⟨fd, ok, D, g, b⟩ := F
  exact ⟨_, fd, ok, g, D.kp, b⟩
theorem FncX.kw {P : Program} {w : World} {K : PySem.W.Frag} {mg : Str → Option Value} {base : Heap} {CX : CXT} {k : Nat} {x y : Str} {st : Stmt} {sp : Sp} (F : FncX P w K mg base CX k x st [y] sp)
    (h : ∀ (kV doc pm : Value) (an : Option Addr) (cdv ct w : Value), bindArgs (PySem.W.fnOf x x (defArgs st) (defBody st) (defScope st) .none kV doc pm an cdv ct) ⟨[], [(y, w)]⟩ = pure [(y, w)]) : Kw1 P w K mg base CX k x y sp := by
  obtain ⟨fd, ok, D, g, b⟩ := F
  exact kw1 ok D g h
theorem fncX {P : Program} {w : World} {K : PySem.W.Frag} {mg : Str → Option Value} {base : Heap} {CX : CXT} {k : Nat} {x : Str} {st : Stmt} {N ps : List Str} {sp : Sp} (D : Def K mg x st) (S : FnScope N ps (defScope st)) (len : ∀ vs H Q E, sp vs H Q E → vs.length = ps.length)
    (hbind : ∀ (kV doc pm : Value) (an : Option Addr) (cdv ct : Value) (us : List Value), us.length = ps.length → bindArgs (PySem.W.fnOf x x (defArgs st) (defBody st) (defScope st) .none kV doc pm an cdv ct) ⟨us, []⟩ = pure (ps.zip us))
    (hbody : ∀ (cdv : Value) (A : Around) (outer : List Env) (s : Shared) (H : Hp) (vs : List V) (Q : VK) (E : XK), Room k (A.deeper (envOfC x (defScope st) s.heap.objs.size (He.ga K x) cdv)) → sp vs H Q E →
      ∃ t, PSs (cxOf CX P w K mg base N x (defScope st) (He.ga K x) cdv A outer s H E) (defBody st) t ∧ t { nx := fun _ H' => Q .non H', rt := Q } (start N vs) H) : FncX P w K mg base CX (k + 1) x st ps sp := by
  obtain ⟨⟨fd, F⟩, g⟩ := D
  exact ⟨fd, F.ok S len hbody, F, g, F.bindsN hbind⟩
end L2
set_option maxHeartbeats 4000000
/-! E10: defs whose code object is told (they make lambdas); the relation that such a def keeps. -/
namespace L2
open PySem PySem.Spec PyProof.Rows PySem.EX
open LamX (Tabs TabS ExtN CodeO TabB)
/-- what the head tells of a def that makes lambdas: c its code object -/
def DefT (K : PySem.W.Frag) (mg : Str → Option Value) (x : Str) (st : Stmt) (c : Addr) : Prop := (∃ fd, FunD K x x (defArgs st) (defBody st) (defScope st) [] [] (He.ga K x) fd ∧ fd.code = .ref c) ∧ mg x = some (.ref (He.ga K x))
section
variable {P : Program} {w : World} {K : PySem.W.Frag} {mg : Str → Option Value} {base : Heap}
theorem fncT {c : Addr} {k : Nat} {x : Str} {st : Stmt} {N ps : List Str} {sp : Sp} (D : DefT K mg x st c) (S : FnScope N ps (defScope st)) (len : ∀ vs H Q E, sp vs H Q E → vs.length = ps.length)
    (hbind : ∀ (kV doc pm : Value) (an : Option Addr) (cdv ct : Value) (us : List Value), us.length = ps.length → bindArgs (PySem.W.fnOf x x (defArgs st) (defBody st) (defScope st) .none kV doc pm an cdv ct) ⟨us, []⟩ = pure (ps.zip us))
    (hbody : ∀ (A : Around) (outer : List Env) (s : Shared) (H : Hp) (vs : List V) (Q : VK) (E : XK), Room k (A.deeper (envOfC x (defScope st) s.heap.objs.size (He.ga K x) (.ref c))) → sp vs H Q E →
      ∃ t, PSs (cxOf CX0 P w K mg base N x (defScope st) (He.ga K x) (.ref c) A outer s H E).nox (defBody st) t ∧ t { nx := fun _ H' => Q .non H', rt := Q } (start N vs) H) :
    ∃ fd, FnOk P w K mg base CX0 (k + 1) (He.ga K x) fd ps sp ∧ Binds K fd ps [] ∧ FunD K x x (defArgs st) (defBody st) (defScope st) [] [] (He.ga K x) fd := by
  obtain ⟨⟨fd, F, hc⟩, g⟩ := D
  refine ⟨fd, ?_, F.bindsN hbind, F⟩
  obtain ⟨oc, od, dV, kV, doc, pm, an, cdv, ct, osl, rfl, lk, hcd, _, _⟩ := F.ex
  have e : cdv = .ref c := hc
  subst e
  refine fn_of lk hcd S len fun A outer s H vs Q E hr hsp => ?_
  obtain ⟨t, h1, h2⟩ := hbody A outer s H vs Q E hr hsp
  exact ⟨t, h1.nox, h2⟩
theorem fncT' {c : Addr} {k : Nat} {x : Str} {st : Stmt} {N ps : List Str} {sp : Sp} (D : DefT K mg x st c) (S : FnScope N ps (defScope st)) (len : ∀ vs H Q E, sp vs H Q E → vs.length = ps.length)
    (hbind : ∀ (kV doc pm : Value) (an : Option Addr) (cdv ct : Value) (us : List Value), us.length = ps.length → bindArgs (PySem.W.fnOf x x (defArgs st) (defBody st) (defScope st) .none kV doc pm an cdv ct) ⟨us, []⟩ = pure (ps.zip us))
    (hbody : ∀ (A : Around) (outer : List Env) (s : Shared) (H : Hp) (vs : List V) (Q : VK) (E : XK), Room k (A.deeper (envOfC x (defScope st) s.heap.objs.size (He.ga K x) (.ref c))) → sp vs H Q E →
      ∃ t, PSs (cxOf CX0 P w K mg base N x (defScope st) (He.ga K x) (.ref c) A outer s H E).nox (defBody st) t ∧ t { nx := fun _ H' => Q .non H', rt := Q } (start N vs) H) :
    Fnc P w K mg base CX0 (k + 1) x ps sp := by
  obtain ⟨fd, ok, b, F⟩ := fncT D S len hbind hbody
  exact ⟨_, fd, ok, D.2, F.kp, b⟩
end
/-- all but the tape and the tables stands -/
def Bt (t l : Addr) (H H' : Hp) : Prop := ∀ b o, H b = some o → b ≠ t → b ≠ l → (∀ ps, o ≠ .tbl ps) → H' b = some o
theorem Bt.refl {t l : Addr} {H : Hp} : Bt t l H H := fun _ _ h _ _ _ => h
theorem Bt.trans {t l : Addr} {H H1 H2 : Hp} (a : Bt t l H H1) (b : Bt t l H1 H2) : Bt t l H H2 := fun c o h h1 h2 h3 => b c o (a c o h h1 h2 h3) h1 h2 h3
theorem Bt.of {t l : Addr} {H H' : Hp} (a : But t l H H') : Bt t l H H' := fun c o h h1 h2 _ => a c o h h1 h2
theorem Bt.ext {t l : Addr} {H H' : Hp} (a : ExtN H H') : Bt t l H H' := fun c o h _ _ n => a c o h n
theorem Tabs.but {T : List (Addr × Str)} {H H' : Hp} {t l c : Addr} (h : Tabs T H) (b : But t l H H') (TT : Tape H t l c) : Tabs T H' := by
  obtain ⟨r, n, lg, cs, h1, h2, _⟩ := TT.ex
  intro p hp
  obtain ⟨ps, e, ok, g⟩ := h p hp
  refine ⟨ps, b _ _ e (ne_of e h1 (by intro z; cases z)) (ne_of e h2 (by intro z; cases z)), ok, fun pos cv hc => ?_⟩
  obtain ⟨c', e1, e2⟩ := g pos cv hc
  exact ⟨c', e1, b _ _ e2 (ne_of e2 h1 (by intro z; cases z)) (ne_of e2 h2 (by intro z; cases z))⟩
theorem ExtN.tape {H H' : Hp} {t l c : Addr} (a : ExtN H H') (T : Tape H t l c) : Tape H' t l c := by
  obtain ⟨r, n, lg, cs, h1, h2, h3⟩ := T.ex
  exact ⟨⟨r, n, lg, cs, a _ _ h1 (by intro ps z; cases z), a _ _ h2 (by intro ps z; cases z), a _ _ h3 (by intro ps z; cases z)⟩, T.lc⟩
theorem ExtN.seq {K : PySem.W.Frag} {H H' : Hp} {a : Addr} {xs : List V} (e : ExtN H H') (h : SqL K H a xs) : SqL K H' a xs := by
  rcases h with (h | ⟨o, h⟩) | h
  · exact .inl (.inl (e _ _ h (by intro ps z; cases z)))
  · exact .inl (.inr ⟨o, e _ _ h (by intro ps z; cases z)⟩)
  · exact .inr h
theorem ExtN.same {H H' : Hp} (a : Same H H') : ExtN H H' := fun b o h _ => a b o h
theorem ExtN.tups {H H' : Hp} (e : ExtN H H') : ∀ b xs, H b = some (.tup xs) → H' b = some (.tup xs) := fun b xs h => e b _ h (by intro ps z; cases z)
end L2
set_option maxHeartbeats 4000000
/-! E11: a def called through a name that holds it; a callable handed on; raise of own classes without __init__. -/
namespace L2
open PySem PySem.Spec PyProof.Rows PySem.EX
open LamX (CodeO ExtN Tabs TabB LamS lamEnv lamCx run_ofS)
/-- the def at f with its promise -/
structure HeldX (P : Program) (w : World) (K : PySem.W.Frag) (mg : Str → Option Value) (base : Heap) (CX : CXT) (k : Nat) (f : Addr) (sp : Sp) : Prop where
  ex : ∃ (fd : FuncData) (ps : List Str), FnOk P w K mg base CX k f fd ps sp ∧ PySem.W.keepIn K (.ref f) = true ∧ Binds K fd ps []
theorem Fnc.held {P : Program} {w : World} {K : PySem.W.Frag} {mg : Str → Option Value} {base : Heap} {CX : CXT} {k : Nat} {x : Str} {ps : List Str} {sp : Sp} {f : Addr} (F : Fnc P w K mg base CX k x ps sp) (g : mg x = some (.ref f)) : HeldX P w K mg base CX k f sp := by
  obtain ⟨f', fd, ok, g', kp, b⟩ := F.ex
  have e : f' = f := Value.ref.inj (Option.some.inj (g'.symm.trans g))
  subst e
  exact ⟨fd, ps, ok, kp, b⟩
theorem HeldX.mono {P : Program} {w : World} {K : PySem.W.Frag} {mg : Str → Option Value} {base : Heap} {CX : CXT} {j k : Nat} {f : Addr} {sp : Sp} (F : HeldX P w K mg base CX j f sp) (h : j ≤ k) : HeldX P w K mg base CX k f sp := by
  obtain ⟨fd, ps, ok, r⟩ := F.ex
  exact ⟨fd, ps, ok.mono h, r⟩
/-- y(..), y the i-th slot: a def of those that hold a promise -/
def tCallW (P : Program) (w : World) (K : PySem.W.Frag) (mg : Str → Option Value) (base : Heap) (CX : CXT) (k i : Nat) (E : XK) (t : TA) : TE := fun σ H Q => ∃ f sp, σ[i]? = some (some (.ref f)) ∧ HeldX P w K mg base CX k f sp ∧ t σ H fun vs H1 => sp vs H1 Q E
section
variable {X : Cx} {CX : CXT} {k i : Nat} {E : XK} {x : Str} {p pos : Pos} {e : Expr} {es : List Expr} {t : TA}
theorem pe_callW (hr : Room k X.A) (hN : X.N[i]? = some x) (hv : Vis X.env.scope x) (hx : Passes CX X E) (ha : PA X (e :: es) t)
    (hdb : (x == ("__debug__" : Str)) = false := by decide) (hcd : (x == ("__classdict__" : Str)) = false := by decide)
    (he : starEach (e :: es) X.env = (false, eval e X.env) :: starEach es X.env := by rfl) (hpl : (backTo pos (starEach es X.env)).any (·.1) = false := by rfl) :
    PE X (.Call (.Name x p) (e :: es) [] pos) (tCallW X.prog X.w X.K X.mg X.base CX k i E t) := by
  refine ⟨fun pins s σ H Q I h => ?_⟩
  obtain ⟨f, sp, hs, hH, ht⟩ := h
  obtain ⟨fd, ps, F, hk, hb⟩ := hH.ex
  refine (pe_callL (i := i) (f := f) (sp := sp) (dvs := []) (E := E) F hr hN hv hk hb .nil hx ha hdb hcd he hpl).run pins s σ H Q I ⟨hs, ?_⟩
  have e0 : (fun (vs : List V) (H1 : Hp) => sp (vs ++ []) H1 Q E) = fun vs H1 => sp vs H1 Q E := by
    funext vs H1
    rw [List.append_nil]
  show t σ H (fun vs H1 => sp (vs ++ []) H1 Q E)
  rw [e0]
  exact ht
end
section
variable {fs : List Addr} {s0 : Shared} {H0 : Hp} {P : Program} {w : World} {K : PySem.W.Frag} {mg : Str → Option Value} {base : Heap} {N : List Str} {qg : Str} {sg : Scope} {g : Addr} {cdg : Value} {A : Around} {outer : List Env} {s : Shared} {H : Hp} {CXg : CXT} {Eg : XK}
/-- x(a), a the callable that this def got, x a def that takes one -/
theorem pe_hand {TT : TL → Hp → VK → Prop} {f c' : Addr} {q x a : Str} {j k i : Nat} {tl : TL} {gx : Addr} {p1 p2 pos : Pos} (G : Takes1 P w K mg base gx j k TT) (hm : mg x = some (.ref gx)) (hk : PySem.W.keepIn K (.ref gx) = true) (lt : Later fs s0 H0 outer s H) (F : Acts P w K mg base fs s0 H0 f c' q k tl)
    (hf : FnO fs s0 H0 f) (hr : Room (j + k) (A.deeper (envOfC qg sg s.heap.objs.size g cdg))) (hN : N[i]? = some a) (hv : Vis sg a) (hg : Gl (cxOf CXg P w K mg base N qg sg g cdg A outer s H Eg).nox x := by rfl) (hd : (a == ("__debug__" : Str)) = false := by decide) (hcd : (a == ("__classdict__" : Str)) = false := by decide) (hdx : (x == ("__debug__" : Str)) = false := by decide)
    (he : starEach [.Name a p2] (cxOf CXg P w K mg base N qg sg g cdg A outer s H Eg).nox.env = (false, eval (.Name a p2) (cxOf CXg P w K mg base N qg sg g cdg A outer s H Eg).nox.env) :: starEach [] (cxOf CXg P w K mg base N qg sg g cdg A outer s H Eg).nox.env := by rfl)
    (hpl : (backTo pos (starEach [] (cxOf CXg P w K mg base N qg sg g cdg A outer s H Eg).nox.env)).any (·.1) = false := by rfl) :
    PE ((cxOf CXg P w K mg base N qg sg g cdg A outer s H Eg).nox) (.Call (.Name x p1) [.Name a p2] [] pos) (fun σZ HZ Q => σZ[i]? = some (some (.ref f)) ∧ HZ c' = some (CodeO c' q) ∧ TT tl HZ Q) := by
  refine ⟨fun pinsZ sZ σZ HZ Q IZ h => ?_⟩
  obtain ⟨hs, hc, ht⟩ := h
  refine wpAny_Call_Name_kw (ld_glob IZ hg hm ?_ hdx)
  refine PySem.W.callWith_K (h₀ := base) IZ.ok.mod.kin hk ?_ he hpl
  refine thn ((pa_cons (pe_var (pos := p2) (i := i) hN hv hd hcd) pa_nil).run pos pinsZ sZ σZ HZ (fun vs H1 => vs = [.ref f] ∧ H1 = HZ) IZ ⟨.ref f, hs, rfl, rfl⟩) fun us s1 ⟨vs, H1, I1, r1, q1⟩ => ?_
  obtain ⟨ev, eH⟩ := q1
  subst ev
  rw [eH] at I1
  refine ⟨I1.kIn, ?_⟩
  obtain ⟨u, rfl, ru⟩ := vals1 r1
  obtain rfl : u = Value.ref f := ru
  have lt1 : Later fs s0 H0 (envOfC qg sg s.heap.objs.size g cdg :: outer) s1 HZ := lt.at_ (CXg := CXg) (E := Eg) (pn := []) (xe := fun _ _ => False) I1
  have rc := G fs s0 H0 f c' q tl (A.deeper (envOfC qg sg s.heap.objs.size g cdg)) (envOfC qg sg s.heap.objs.size g cdg :: outer) s1 HZ Q F hf lt1 hr I1.env0 hc ht
  refine wpAny_call (codeAny_mono rc fun r s' hq => ?_)
  cases r with
  | error e => exact (show False from hq).elim
  | ok fl =>
    cases fl with
    | ret u => exact I1.after hq
    | next => exact False.elim hq
    | brk => exact False.elim hq
    | cont => exact False.elim hq
end
/-- an own class without an __init__, above it own ones such, then ValueError -/
structure OCls (K : PySem.W.Frag) (mg : Str → Option Value) (x : Str) : Prop where
  glo : mg x = some (.ref (He.ga K x))
  exc : PySem.W.excIn K (He.ga K x) He.veBase "ValueError.__new__" = true
  kp : PySem.W.keepIn K (.ref (He.ga K x)) = true
  be : PySem.W.subIn K (.ref (He.ga K x)) (.type "BaseException") = some true
  ty : PySem.W.typeIn K (.ref (He.ga K x)) = some (.type "type")
/-- raise C('..') -/
def tRaiseO (C : Addr) (W : WX) : TS := fun _ σ H => W (.ref C) none σ H
theorem ps_raiseO {X : Cx} {x m : Str} {j : Nat} {p p2 pos pos2 : Pos} {W : WX} (hc : X.calm = true) (T : OCls X.K X.mg x) (tk : Takes X W) (hg : Gl X x := by rfl) (hdb : (x == ("__debug__" : Str)) = false := by decide) :
    PS X (.Raise (some (.Call (.Name x p) [.Constant (.str m) j p2] [] pos)) none pos2) (tRaiseO (He.ga X.K x) W) :=
  ps_raise hc tk (pmk_own PySem.F.excBase_ValueError T.exc T.glo T.kp (raises_own T.be T.ty) hg hdb)
end L2
set_option maxHeartbeats 4000000
/-! E12: errors that are due. -/
namespace L2
open PySem PySem.Spec PyProof.Rows PySem.EX
/-- statements that are not reached -/
theorem pss_any {X : Cx} {ss : List Stmt} : PSs X ss (fun _ _ _ => False) := ⟨fun _ _ _ _ _ _ h => h.elim⟩
theorem pe_tyN {X : Cx} {x : Str} {n : String} {pos : Pos} (hm : X.mg x = none) (hg : Gl X x) (hv : bootBuiltins x = some (.type n)) (hn : x ≠ "__name__" := by decide) (hd : (x == ("__debug__" : Str)) = false := by decide) : PE X (.Name x pos) (tC (.ty n)) := pe_bltn hg hm hv rfl hn hd
/-- what is wanted of C(v), raised -/
def XO (C : Addr) (k : Fk) (v : V) (H : Hp) (E : XK) : Prop := ∀ (d : Addr) (H' : Hp), Same H H' → H' d = some (.xd [(k.name, v)]) → E (.ref C) (some d) H'
theorem XO.go {C : Addr} {k : Fk} {v : V} {H H1 : Hp} {E : XK} (x : XO C k v H E) (s : Same H H1) {d : Addr} (hd : H1 d = none) : E (.ref C) (some d) (upd H1 d (.xd [(k.name, v)])) := x d _ (s.trans (Same.upd hd)) upd_same
/-- what is wanted of C('..'), raised -/
def XOO (C : Addr) (H : Hp) (E : XK) : Prop := ∀ H' : Hp, Same H H' → E (.ref C) none H'
/-- the errors -/
inductive DueE where
  | num (p : Str) | text (v : V) | kind | states | edit | done | undone | book
def DueE.out (K : PySem.W.Frag) (d : DueE) (H : Hp) (E : XK) : Prop := match d with
  | .num p => XO (He.ga K "BadNumber") .part (.str p) H E
  | .text v => XO (He.ga K "BadText") .index v H E
  | .kind => XOO (He.ga K "BadKind") H E
  | .states => XOO (He.ga K "BadStates") H E
  | .edit => XOO (He.ga K "BadEdit") H E
  | .done => XOO (He.ga K "NothingDone") H E
  | .undone => XOO (He.ga K "NothingUndone") H E
  | .book => XOO (He.ga K "NoPlanbook") H E
theorem DueE.same {K : PySem.W.Frag} {d : DueE} {H H1 : Hp} {E : XK} (x : d.out K H E) (s : Same H H1) : d.out K H1 E := by
  cases d <;> first
    | exact fun dd H' s' h => x dd H' (s.trans s') h
    | exact fun H' s' => x H' (s.trans s')
/-- None, a text, a number out of 0 .. 33 -/
inductive Odd : V → Prop where
  | non : Odd .non
  | str (x : Str) : Odd (.str x)
  | int (i : Int) (h : i < 0 ∨ 33 < i) : Odd (.int i)
theorem same_refl {H : Hp} : Same H H := fun _ _ h => h
/-- an own exception class with a part -/
structure PCls (prog : Program) (K : PySem.W.Frag) (mg : Str → Option Value) (x : Str) (k : Fk) : Prop where
  glo : mg x = some (.ref (He.ga K x))
  txt : ∃ D fI cc cda, XTxt prog K k (He.ga K x) D fI cc cda
theorem ps_raisePC {X : Cx} {x : Str} {kd : Fk} {a : Expr} {ta : TA} {W : WX} {p pos pos2 : Pos} {k : Nat} (hc : X.calm = true) (T : PCls X.prog X.K X.mg x kd) (hr : Room k X.A) (tk : Takes X W) (ha : PA X [a] ta) (hg : Gl X x := by rfl) (hdb : (x == ("__debug__" : Str)) = false := by decide)
    (he : starEach (a :: []) X.env = (false, eval a X.env) :: starEach [] X.env := by rfl) (hpl : (backTo pos (starEach [] X.env)).any (·.1) = false := by rfl) :
    PS X (.Raise (some (.Call (.Name x p) [a] [] pos)) none pos2) (tRaiseP kd (He.ga X.K x) W ta) := by
  obtain ⟨D, fI, cc, cda, XT⟩ := T.txt
  exact ps_raiseP hc XT T.glo hr tk ha hg hdb he hpl
theorem TyX.grow {K : PySem.W.Frag} {H H' : Hp} {x : V} {t : Value} (e : ∀ a o, H a = some o → H' a = some o) (h : TyX K H x t) : TyX K H' x t := by
  cases h with
  | base b => cases b with
    | non => exact .base .non
    | bl x => exact .base (.bl x)
    | int x => exact .base (.int x)
    | str x => exact .base (.str x)
    | flt x => exact .base (.flt x)
    | lst q => exact .base (.lst (e _ _ q))
    | frz q => exact .base (.frz (e _ _ q))
    | tup q => exact .base (.tup (e _ _ q))
    | dK q => exact .base (.dK (e _ _ q))
    | dT q => exact .base (.dT (e _ _ q))
    | ins q c1 c2 c3 c4 c5 => exact .base (.ins (e _ _ q) c1 c2 c3 c4 c5)
  | byt b => exact .byt b
  | set q => exact .set (e _ _ q)
  | kList q c => exact .kList q c
  | kTuple q c => exact .kTuple q c
  | kDict q c => exact .kDict q c
  | fTuple q => exact .fTuple (e _ _ q)
  | fDict q => exact .fDict (e _ _ q)
theorem kit_self {K : PySem.W.Frag} {t : Value} : PySem.W.kitOne K t t = some true := by unfold PySem.W.kitOne; rw [if_pos (by simp)]
/-! ### promises of the kinds -/
def spNumO : Sp := fun vs H Q _ => ∃ v, vs = [v] ∧ ((∃ i : Int, v = .int i ∧ Q (.bl true) H) ∨ ((v = .non ∨ ∃ x, v = .str x) ∧ Q (.bl false) H))
def spBtwO : Sp := fun vs H Q _ => ∃ (v : V) (a b : Int), vs = [v, .int a, .int b] ∧ ((∃ i : Int, v = .int i ∧ Q (.bl (decide (a ≤ i) && decide (i ≤ b))) H) ∨ (Odd v ∧ 0 ≤ a ∧ b ≤ 33 ∧ Q (.bl false) H))
theorem Odd.numv {v : V} (h : Odd v) : (∃ i : Int, v = .int i ∧ (i < 0 ∨ 33 < i)) ∨ (v = .non ∨ ∃ x, v = .str x) := by
  cases h with
  | non => exact .inr (.inl rfl)
  | str x => exact .inr (.inr ⟨x, rfl⟩)
  | int i h => exact .inl ⟨i, rfl, h⟩
theorem Odd.ty {K : PySem.W.Frag} {H : Hp} {v : V} (h : Odd v) : ∃ t, TyX K H v t ∧ PySem.W.kitOne K t (.type "tuple") = some false := by
  cases h with
  | non => exact ⟨_, .base .non, by with_unfolding_all rfl⟩
  | str x => exact ⟨_, .base (.str x), by with_unfolding_all rfl⟩
  | int i h => exact ⟨_, .base (.int i), by with_unfolding_all rfl⟩
end L2
set_option maxHeartbeats 4000000
/-! E13: {**a, **b}. -/
namespace PySem
open Sem (wp)
section
variable {prog : Program} {w : World} {K : Type} [DecidableEq K] {knd : KeyKind prog w K} {A : Around} {E : Value → Shared → Prop} {s : Shared}
theorem wpAny_dictPut_pairs {d : Addr} {kvs : List (K × Value)} {k : K} {key v : Value} {Q : Unit → Shared → Prop} (hkey : knd.is k key = true) (hm : s.heap.DictOf knd d kvs)
    (hQ : ∀ h', h'.DictOf knd d (stored kvs k v) → Heap.SameBut d s.heap h' → Q () { s with heap := h' })
    (hsz : kvs.length ≤ sizeLine) :
    wpAny (model prog w) A (dictPut d (knd.hash k) key v) Q E s := by
  obtain ⟨o, es, ep, ho, hc, hd, hk, hp, hn⟩ := hm
  have hes : es.size ≤ sizeLine := by
    have e1 := hp.length
    have e2 : es.toList.length = es.size := by simp
    omega
  unfold dictPut
  refine wpAny_bind (wpAny_dictFind_of hkey ho hd hk ?_)
  have hidx : (es.findIdx? fun e => knd.is k e.key) = kvs.findIdx? fun kv => decide (kv.1 = k) := by
    rw [← hp.findIdx k]; obtain ⟨l⟩ := es; simp
  cases hi : es.findIdx? fun e => knd.is k e.key with
  | some i =>
    refine wpAny_updateDict ho hd (hQ _ ⟨_, _, ep, Heap.get?_update_self _ ho (Obj.isFreed_of_dict (Obj.data_mapDict hd _)),
      hc.mapDict _, Obj.data_mapDict hd _, hk.modify _ _, ?_, ?_⟩ (Heap.SameBut.update ..))
    · rw [stored, if_pos (any_of_findIdx_some (hidx ▸ hi))]
      have hl : (es.toList.findIdx? fun e => knd.is k e.key) = some i := by rw [← hi]; obtain ⟨l⟩ := es; simp
      have := hp.modify hn hl v
      obtain ⟨l⟩ := es
      simpa using this
    · rw [stored, if_pos (any_of_findIdx_some (hidx ▸ hi)), keys_map_store]; exact hn
  | none =>
    have hnot : k ∉ kvs.map (·.1) := not_mem_of_findIdx_none (hidx ▸ hi)
    have hany : ¬ (kvs.any fun kv => decide (kv.1 = k)) = true := by
      rw [List.any_eq_true]; rintro ⟨kv, hkv, he⟩
      exact hnot (List.mem_map.mpr ⟨kv, hkv, of_decide_eq_true he⟩)
    refine wpAny_updateDictKeys (hz := hes) ho hd (hQ _ ⟨_, _, ep + 1, Heap.get?_update_self _ ho (Obj.isFreed_of_dict (Obj.data_mapDictKeys hd _)),
      hc.mapDictKeys _, Obj.data_mapDictKeys hd _, hk.push hkey _, ?_, ?_⟩ (Heap.SameBut.update ..))
    · rw [stored, if_neg hany]
      have := hp.append hkey (knd.hash k) v
      obtain ⟨l⟩ := es
      simpa using this
    · rw [stored, if_neg hany, List.map_append, List.nodup_append]
      refine ⟨hn, by simp, ?_⟩
      intro a ha b hb
      simp only [List.map_cons, List.map_nil, List.mem_singleton] at hb
      subst hb
      exact fun e => hnot (e ▸ ha)
theorem wpAny_mergeMapping {d o : Addr} {kvs more : List (K × Value)} {Q : Unit → Shared → Prop} (hdo : d ≠ o) (hoS : (o == sysModules) = false)
    (nref : ∀ k v, knd.is k v = true → ∀ a, v ≠ .ref a)
    (hd : s.heap.DictOf knd d kvs) (ho : s.heap.DictOf knd o more)
    (hQ : ∀ h', h'.DictOf knd d (merged kvs more) → h'.DictOf knd o more → Heap.SameBut d s.heap h' → Q () { s with heap := h' })
    (hsz : kvs.length + more.length ≤ sizeLine) :
    wpAny (model prog w) A (mergeMapping d (.ref o) false) Q E s := by
  obtain ⟨od, esd, epd, hod, hcd, hdd, hkd, hpd, hnd⟩ := id hd
  obtain ⟨oo, eso, epo, hoo, hco, hdo', hko, hpo, hno⟩ := id ho
  have hlen : more.length = eso.size := by rw [← hpo.length]; simp
  unfold mergeMapping
  refine wpAny_bind (wpAny_isInstance ho.typeIs isSubtype_dict_dict ?_)
  simp only [if_true]
  refine wpAny_bind (wpAny_specialOf ho.typeIs F.slot_dict_iter.lookup (wpAny_bind (wpAny_pure ?_)))
  simp only [beq_self_eq_true]
  rw [if_neg (by rw [hoS]; exact Bool.false_ne_true)]
  have fin : wpAny (model prog w) A (do
      let __do_lift ← dictEntries o
      let epoch ← dictEpoch o
      forIn (List.range __do_lift.size) PUnit.unit fun i (_ : PUnit) => (do
        let l' ← dictEntries o
        match l'[i]? with
          | some e => do
            holding [e.key, e.val] (dictPut d e.hash e.key e.val)
            let ep' ← dictEpoch o
            if (ep' != epoch) = true then do
                (unsupported "dict.changed-during-merge" : Sem PUnit)
                pure (ForInStep.yield PUnit.unit)
              else pure (ForInStep.yield PUnit.unit)
          | _ => do
            (unsupported "dict.changed-during-merge" : Sem PUnit)
            pure (ForInStep.yield PUnit.unit) : Sem (ForInStep PUnit))
      pure ()) Q E s := by
    refine wpAny_bind (wpAny_dictEntries hoo hdo' ?_)
    refine wpAny_bind (wpAny_dictEpoch hoo hdo' ?_)
    refine wpAny_bind ?_
    rw [List.range_eq_range']
    refine wpAny_forIn_list _
      (fun rest _ s' => ∃ h' i, s' = { s with heap := h' } ∧ rest = List.range' i (eso.size - i) ∧ i ≤ eso.size ∧ h'.DictOf knd d (merged kvs (more.take i)) ∧ h'.get? o = some oo ∧ Heap.SameBut d s.heap h')
      _ ?_ ?_ _ _ ⟨s.heap, 0, rfl, by simp, Nat.zero_le _, by simpa [merged] using hd, hoo, Heap.SameBut.refl _ _⟩
    · rintro x rest b s' ⟨h', i, rfl, hr, hi, hd', hoo', hs'⟩
      have hlt : i < eso.size := by
        rcases Nat.lt_or_ge i eso.size with h | h
        · exact h
        · rw [Nat.sub_eq_zero_of_le h] at hr; simp at hr
      obtain ⟨rfl, hrest⟩ : x = i ∧ rest = List.range' (i + 1) (eso.size - (i + 1)) := by
        have e : eso.size - i = (eso.size - (i + 1)) + 1 := by omega
        rw [e, List.range'_succ] at hr
        injection hr with h1 h2
        exact ⟨h1, h2⟩
      refine wpAny_bind (wpAny_dictEntries hoo' hdo' ?_)
      rw [Array.getElem?_eq_getElem hlt]
      obtain ⟨kv, hkv⟩ : ∃ kv, more[x]? = some kv := ⟨more[x]'(by rw [hlen]; exact hlt), List.getElem?_eq_getElem _⟩
      obtain ⟨k, v⟩ := kv
      obtain ⟨hkey, hval⟩ := hpo.get? (e := eso[x]) (by simp [hlt]) hkv
      obtain ⟨k', hkey', hhash⟩ := hko eso[x] (Array.getElem_mem hlt)
      obtain rfl : k' = k := knd.inj _ _ _ hkey' hkey
      show wpAny _ _ (holding [eso[x].key, eso[x].val] (dictPut d eso[x].hash eso[x].key eso[x].val) >>= _) _ _ _
      rw [hhash, hval]
      have hmx : (merged kvs (more.take x)).length ≤ sizeLine := by
        have e1 := merged_length_le kvs (more.take x)
        have e2 : (more.take x).length ≤ more.length := by rw [List.length_take]; omega
        omega
      refine wpAny_bind (wpAny_holding (wpAny_dictPut_pairs (hsz := hmx) hkey hd' fun h'' hd'' hs'' => ?_))
      have hoo'' : h''.get? o = some oo := (hs''.2 o (Ne.symm hdo)).trans hoo'
      refine wpAny_bind (wpAny_dictEpoch hoo'' hdo' ?_)
      rw [if_neg (by simp)]
      exact wpAny_pure ⟨h'', x + 1, rfl, hrest, hlt, by rw [merged_take_succ kvs more x (k', v) hkv]; exact hd'', hoo'', hs'.trans hs''⟩
    · rintro b s' ⟨h', i, rfl, hr, hi, hd', hoo', hs'⟩
      have hin : i = eso.size := by
        rcases Nat.lt_or_ge i eso.size with h | h
        · have e : eso.size - i = (eso.size - (i + 1)) + 1 := by omega
          rw [e, List.range'_succ] at hr; exact nomatch hr
        · exact Nat.le_antisymm hi h
      refine wpAny_pure (hQ h' ?_ ⟨oo, eso, epo, hoo', hco, hdo', hko, hpo, hno⟩ hs')
      rw [hin, ← hlen, List.take_length] at hd'; exact hd'
  refine wpAny_bind (wpAny_dictEntries hod hdd ?_)
  simp only [Bool.false_eq_true, if_false]
  split
  · refine wpAny_bind (wpAny_dictEntries hoo hdo' ?_)
    refine wpAny_bind ?_
    rw [← Array.forIn_toList]
    refine wpAny_forIn_list _ (fun rest _ s' => s' = s ∧ ∀ e ∈ rest, e ∈ eso) _ ?_ ?_ _ _ ⟨rfl, fun e he => by simpa using he⟩
    · rintro x rest b s' ⟨rfl, hm⟩
      obtain ⟨k', hkey', _⟩ := hko x (hm x List.mem_cons_self)
      have nr := nref _ _ hkey'
      have g : ∀ (v : Value), (∀ a, v ≠ .ref a) → ∀ (f : Addr → Sem (ForInStep PUnit)) (gg : Sem (ForInStep PUnit)), (match v with | .ref a => f a | _ => gg) = gg := fun v hv f gg => by
        cases v <;> first | rfl | exact absurd rfl (hv _)
      cases hkk : x.key with
      | ref a => exact absurd hkk (nr a)
      | _ => exact wpAny_pure ⟨rfl, fun e he => hm e (List.mem_cons_of_mem _ he)⟩
    · rintro b s' ⟨rfl, _⟩
      exact fin
  · exact fin
end
end PySem
namespace L2
open PySem
/-- {**a, **b}; the new dict stands while a and b are made -/
def tMrg (ta tb : TE) : TE := fun σ H Q => ∀ p, H p = none → ta σ (upd H p (.dK [])) fun x H1 => H1 p = some (.dK []) ∧ ∃ a ks, x = .ref a ∧ H1 a = some (.dK ks) ∧ a ≠ p ∧ ks.length ≤ 1000 ∧
  tb σ (upd H1 p (.dK (mergeK [] ks))) fun y H2 => H2 p = some (.dK (mergeK [] ks)) ∧ ∃ b ls, y = .ref b ∧ H2 b = some (.dK ls) ∧ b ≠ p ∧ ls.length ≤ 1000 ∧ Q (.ref p) (upd H2 p (.dK (mergeK (mergeK [] ks) ls)))
theorem mix_nref {P : Program} {w : World} (k : Key) (v : Value) (h : (mixKind P w).is k v = true) (a : Addr) : v ≠ .ref a := by
  intro e
  subst e
  rcases keyIs_shape h with ⟨i, t, e1, e2⟩ | ⟨x, t, e1, e2⟩ <;> cases e2
theorem merge_at {X : Cx} {pins : List (Addr × Obj)} {σ : St} {H : Hp} {s : Shared} {p a : Addr} {ks ls : List (Key × V)} {A : Around} {E : Value → Shared → Prop} {Q : Unit → Shared → Prop} (I : Inv X pins σ H s) (hp : H p = some (.dK ks)) (ha : H a = some (.dK ls)) (ne : a ≠ p)
    (hsz : ks.length + ls.length ≤ sizeLine) (h : ∀ s', Inv X pins σ (upd H p (.dK (mergeK ks ls))) s' → Q () s') : wpAny (model X.prog X.w) A (mergeMapping p (.ref a) false) Q E s := by
  obtain ⟨_, hd, vs, r, dd⟩ := dk_of I.hok hp
  obtain ⟨_, ho, us, r2, oo⟩ := dk_of I.hok ha
  refine wpAny_mergeMapping (knd := mixKind X.prog X.w) (Ne.symm ne) ho mix_nref dd oo (fun h' dd' _ hs => h _ ?_) (by rw [← r.length, ← r2.length]; exact hsz)
  have he : ∃ q, h'.get? p = some q := let ⟨q, _, _, hq, _⟩ := dd'; ⟨q, hq⟩
  exact d_write I (by rw [hp]; exact True.intro) hs he (dk_new (Nat.le_trans (length_mergeK ls ks) hsz) hd (r2.merge r) dd')
theorem pe_mrg {X : Cx} {ea eb : Expr} {ta tb : TE} {pos : Pos} (ha : PE X ea ta) (hb : PE X eb tb) : PE X (.Dict [none, none] [ea, eb] pos) (tMrg ta tb) := by
  refine ⟨fun pins s σ H Q I h => ?_⟩
  rw [arm_eval_Dict]
  refine wpAny_bind (wpAny_standAt ?_)
  have e : (evalEachOpt [none, none] X.env).zip ((evalEach [ea, eb] X.env).map fun v => do let x ← v; standAt pos; pure x) = [(none, do let x ← eval ea X.env; standAt pos; pure x), (none, do let x ← eval eb X.env; standAt pos; pure x)] := rfl
  rw [e]
  unfold dictDisplay
  dsimp only
  refine wpAny_bind ?_
  rw [List.forIn_cons]
  dsimp only
  rw [List.isEmpty_nil, if_pos rfl]
  have hn := I.hok.fresh (Nat.le_refl s.heap.objs.size)
  have I1 := I.laid (a := s.heap.objs.size) (o := .dK []) (h' := s.heap.push { cls := .type "dict", data := .dict #[] }) (t' := s.toks) (fun _ _ q => Heap.get?_push_of_some _ q) (Nat.le_refl _) (dk_empty s.heap I.big)
  refine wpAny_bind (wpAny_bind (wpAny_pure ?_))
  dsimp only
  refine wpAny_bind (wpAny_alloc ?_)
  refine wpAny_bind (wpAny_holding (wpAny_bind (thn (ha.run pins _ σ _ _ I1 (h _ hn)) fun u s1 ⟨x, H1, I2, rx, hp1, a, ks, ex, hka, ne, hk, q1⟩ => wpAny_bind (wpAny_standAt (wpAny_pure ?_)))))
  subst ex
  obtain rfl : u = Value.ref a := rx
  refine wpAny_bind (wpAny_onRaise (wpAny_tryCatch (wpAny_onRaise (wpAny_holding (merge_at I2 hp1 hka ne (by rw [List.length_nil, sizeLine_eq]; omega) fun s2 I3 => ?_)))))
  refine wpAny_pure ?_
  dsimp only
  rw [List.forIn_cons]
  dsimp only
  rw [List.isEmpty_nil, if_pos rfl]
  refine wpAny_bind (wpAny_bind (wpAny_pure ?_))
  dsimp only
  refine wpAny_bind (wpAny_pure ?_)
  refine wpAny_bind (wpAny_holding (wpAny_bind (thn (hb.run pins _ σ _ _ I3 q1) fun u s3 ⟨y, H2, I4, ry, hp2, b, ls, ey, hlb, nb, hl, q2⟩ => wpAny_bind (wpAny_standAt (wpAny_pure ?_)))))
  subst ey
  obtain rfl : u = Value.ref b := ry
  have hmk := length_mergeK ks []
  refine wpAny_bind (wpAny_onRaise (wpAny_tryCatch (wpAny_onRaise (wpAny_holding (merge_at I4 hp2 hlb nb (by rw [List.length_nil] at hmk; rw [sizeLine_eq]; omega) fun s4 I5 => ?_)))))
  refine wpAny_pure ?_
  dsimp only
  rw [List.forIn_nil]
  refine wpAny_pure ?_
  dsimp only
  rw [List.isEmpty_nil, if_pos rfl]
  refine wpAny_bind (wpAny_pure ?_)
  exact wpAny_pure ⟨.ref s.heap.objs.size, _, I5, rfl, q2⟩
/-! ### x in a tuple of data of any depth -/
section
open PySem.Spec PyProof.Rows
variable {X : Cx}
def rInDT (K : PySem.W.Frag) : R2 := fun x y H Q => ∃ d ds, Dp K H x d ∧ Dp K H y (.tuple ds) ∧ SeqAt.shaped d = true ∧ SeqAt.shaped (.tuple ds) = true ∧ Q (.bl (ds.any fun z => PyData.eqv z d)) H
def rNotInDT (K : PySem.W.Frag) : R2 := fun x y H Q => ∃ d ds, Dp K H x d ∧ Dp K H y (.tuple ds) ∧ SeqAt.shaped d = true ∧ SeqAt.shaped (.tuple ds) = true ∧ Q (.bl (!ds.any fun z => PyData.eqv z d)) H
theorem op_inDT (hu : X.A.units + 65 < cLine) : OpR X (compareOp .In) (rInDT X.K) := by
  intro pins s σ H x y v u Q I rx ry h
  obtain ⟨d, ds, hd, he, sd, se, q⟩ := h
  obtain ⟨as, r1⟩ := Dp.reads I d x v hd rx
  obtain ⟨bs, r2⟩ := Dp.reads I (.tuple ds) y u he ry
  exact SeqAt.in_tuple_reads r2 r1 (SeqAt.canLay_of_shaped se) (SeqAt.canLay_of_shaped sd) (room_in_shaped sd hu) ⟨.bl _, H, I, rfl, q⟩
theorem op_notInDT (hu : X.A.units + 65 < cLine) : OpR X (compareOp .NotIn) (rNotInDT X.K) := by
  intro pins s σ H x y v u Q I rx ry h
  obtain ⟨d, ds, hd, he, sd, se, q⟩ := h
  obtain ⟨as, r1⟩ := Dp.reads I d x v hd rx
  obtain ⟨bs, r2⟩ := Dp.reads I (.tuple ds) y u he ry
  exact SeqAt.notIn_tuple_reads r2 r1 (SeqAt.canLay_of_shaped se) (SeqAt.canLay_of_shaped sd) (room_in_shaped sd hu) ⟨.bl _, H, I, rfl, q⟩
end
end L2
set_option maxHeartbeats 4000000
/-! H1: a Hook for programs with exception classes by super, properties, defs that make lambdas. -/
namespace HX
open PySem PySem.Spec PyProof.Rows L2 PySem.EX He
open PySem.W (findIn nsIn subIn typeIn keepIn clsIn mroIn ks_superIn specialIn takesIn recIn codeIn hasDictIn isFn)
/-! ### addresses -/
def codeAt (K : PySem.W.Frag) (f : Addr) : Addr := match K.lookup f with
  | some ⟨_, _, .func fd, _⟩ => (match fd.code with
    | .ref a => a
    | _ => 0)
  | _ => 0
def cellAt (K : PySem.W.Frag) (f : Addr) : Addr := match K.lookup f with
  | some ⟨_, _, .func fd, _⟩ => (match fd.closure with
    | [(_, c)] => c
    | _ => 0)
  | _ => 0
def tabAt (K : PySem.W.Frag) (c : Addr) : Addr := match K.lookup c with
  | some ⟨_, _, .fields vs, _⟩ => (match (vs[11]? : Option Value) with
    | some (Value.ref p) => p
    | _ => 0)
  | _ => 0
def getterAt (K : PySem.W.Frag) (p : Addr) : Addr := match recIn K p "property" with
  | some (.ref g :: _) => g
  | _ => 0
/-! ### an exception class -/
def excB (K : PySem.W.Frag) (C : Addr) : Bool := match K.lookup C with
  | some ⟨.type "type", _, .cls cd, sl⟩ => (match cd.mro, sl.toList with
    | .ref C' :: bm, [_, _, _, _, some (.builtin n), _] => C' == C && (n == "ValueError.__new__" && (!cd.hasDel && (cd.hasDict && PySem.HandSPX.refsVE bm)))
    | _, _ => false)
  | _ => false
theorem excB_ok {K : PySem.W.Frag} {C : Addr} (q : excB K C = true) : ∃ nm q N bs bm sn sub ab col dd k0 k1 k2 k3 k5, K.lookup C = some (excClassObj nm q C N bs bm true sn sub ab col dd k0 k1 k2 k3 k5 "ValueError.__new__") ∧ PySem.HandSPX.refsVE bm = true := by
  unfold excB at q
  split at q
  · rename_i dd cd sl ho
    split at q
    · rename_i C' bm k0 k1 k2 k3 n k5 hm hs
      obtain ⟨q1, q⟩ := ba q
      obtain ⟨q2, q⟩ := ba q
      obtain ⟨q3, q⟩ := ba q
      obtain ⟨q4, q5⟩ := ba q
      have e1 : C' = C := beq_iff_eq.mp q1
      have e2 : n = "ValueError.__new__" := beq_iff_eq.mp q2
      have e3 : cd.hasDel = false := by simpa using q3
      obtain ⟨nm, bs, mro, ns, qn, hd, sn, sub, ab, col, del⟩ := cd
      dsimp only at hm e3 q4
      subst hm e3 q4 e1 e2
      have hsl : sl = #[k0, k1, k2, k3, some (.builtin "ValueError.__new__"), k5] := by
        obtain ⟨l⟩ := sl
        simp only at hs
        rw [hs]
      subst hsl
      exact ⟨_, _, _, _, _, _, _, _, _, _, _, _, _, _, _, ho, q5⟩
    · cases q
  · cases q
/-- a function's data but its closure and defaults -/
abbrev FnY : Type := Option (Str × Str × Arguments × FuncBody × Scope × Addr × Addr)
def fy (nm q : Str) (p : Arguments) (b : List Stmt) (s : Scope) : FnY := some (nm, q, p, .stmts b, s, mainGlobals, builtinsNs)
def fnY (K : PySem.W.Frag) (f : Addr) : FnY := match K.lookup f with
  | some ⟨_, _, .func fd, _⟩ => some (fd.name, fd.qualname, fd.params, fd.body, fd.scope, fd.globals, fd.builtins)
  | _ => none
def superB (K : PySem.W.Frag) (f D : Addr) (q file : Str) : Bool := match K.lookup f with
  | some ⟨_, _, .func fd, _⟩ => (match fd.closure, fd.code, fd.defaults with
    | [(x, c)], .ref cda, .none => decide (x = "__class__") && (codeIn K (.ref cda) q && ((match K.lookup c with
        | some ⟨_, _, .cell (some (.ref d)), _⟩ => decide (d = D)
        | _ => false) && (match K.lookup cda with
        | some ⟨_, _, .fields vs, _⟩ => (match (vs[2]? : Option Value) with
          | some (Value.str y _) => decide (y = file)
          | _ => false)
        | _ => false)))
    | _, _, _ => false)
  | _ => false
theorem superB_ok {K : PySem.W.Frag} {f D : Addr} {q file : Str} {p : Arguments} {b : List Stmt} {s : Scope} (e : fnY K f = fy "__init__" q p b s) (h : superB K f D q file = true) :
    ∃ cc cda, (∃ (oc : Value) (od : Option Addr) (kV doc pm : Value) (an : Option Addr) (ct : Value) (osl : Array (Option Value)), K.lookup f = some ⟨oc, od, .func (PySem.W.ksFn "__init__" q p b s .none kV doc pm an (.ref cda) ct cc), osl⟩) ∧ codeIn K (.ref cda) q = true ∧
      (∃ (ccl : Value) (cdd : Option Addr) (vs : Array Value) (ccs : Array (Option Value)) (tf : Tok), K.lookup cda = some ⟨ccl, cdd, .fields vs, ccs⟩ ∧ vs[2]? = some (.str file tf)) ∧
      ∃ (cl : Value) (cld : Option Addr) (csl : Array (Option Value)), K.lookup cc = some ⟨cl, cld, .cell (some (.ref D)), csl⟩ := by
  unfold fnY at e
  unfold superB at h
  cases hq : K.lookup f with
  | none => rw [hq] at e; cases e
  | some o =>
    obtain ⟨oc, od, dt, osl⟩ := o
    rw [hq] at e h
    cases dt with
    | func fd =>
      obtain ⟨n1, n2, n3, n4, n5, n6, n7, n8, n9, n10, n11, n12, n13, n14, n15⟩ := fd
      have e2 : (some (n1, n2, n3, n4, n5, n6, n15) : FnY) = some (Str.ofString "__init__", q, p, FuncBody.stmts b, s, mainGlobals, builtinsNs) := e
      simp only [Option.some.injEq, Prod.mk.injEq] at e2
      obtain ⟨h1, h2, h3, h4, h5, h6, h7⟩ := e2
      subst h1 h2 h3 h4 h5 h6 h7
      dsimp only at h
      split at h
      · rename_i x c cda
        obtain ⟨k1, h⟩ := ba h
        obtain ⟨k2, h⟩ := ba h
        obtain ⟨k3, k4⟩ := ba h
        have ex : x = "__class__" := of_decide_eq_true k1
        subst ex
        refine ⟨c, cda, ⟨oc, od, n9, n10, n11, n12, n14, osl, rfl⟩, k2, ?_, ?_⟩
        · split at k4
          · rename_i ccl cdd vs ccs hc
            split at k4
            · rename_i y tf hy
              have ey : y = file := of_decide_eq_true k4
              subst ey
              exact ⟨_, _, _, _, _, hc, hy⟩
            · cases k4
          · cases k4
        · split at k3
          · rename_i cl cld d csl hc
            have ed : d = D := of_decide_eq_true k3
            subst ed
            exact ⟨_, _, _, hc⟩
          · cases k3
      · cases h
    | _ => cases e
/-- C by the text's name, D the class whose __init__ it has -/
def excOk (K : PySem.W.Frag) (k : Fk) (C D file : Str) : Bool :=
  excB K (ga K C) && (eqO (findIn K (.ref (ga K C)) "__setattr__") (some (some (.builtin "object.__setattr__"))) && (eqO (findIn K (.ref (ga K C)) k.name) (some none) && (eqO (findIn K (.ref (ga K C)) "__init__") (some (some (.ref (ma K (ga K C) "__init__")))) &&
  (decide (typeIn K (.ref (ma K (ga K C) "__init__")) = some (.type "function")) && (keepIn K (.ref (ga K C)) && (decide (subIn K (.ref (ga K C)) (.type "BaseException") = some true) && (decide (subIn K (.ref (ga K C)) (.type "ValueError") = some true) &&
  (decide (typeIn K (.ref (ga K C)) = some (.type "type")) && ((clsIn K (ga K D)).isSome && (decide (mroIn K (ga K C) (.ref (ga K D)) = some true) && (eqO (nsIn K mainGlobals "super") (some none) && (eqO (nsIn K cStatics "thirdparty.any") (some none) &&
  (eqO (ks_superIn K (ga K C) (ga K D) "__init__") (some (some (.builtin "ValueError.__init__"))) && superB K (ma K (ga K C) "__init__") (ga K D) k.qual file)))))))))))))
theorem excOk_ok {prog : Program} {K : PySem.W.Frag} {k : Fk} {C D : Str} {st : Stmt} (h : excOk K k C D prog.main.file = true) (e : fnY K (ma K (ga K C) "__init__") = fy "__init__" k.qual (defArgs st) (defBody st) (defScope st))
    (hs : ∃ p1 p2 q1 q2 q3 q4 q5 q6 q7 q8 q9 q10 : Pos, defArgs st = iA k p1 p2 ∧ defBody st = iB k q1 q2 q3 q4 q5 q6 q7 q8 q9 q10 ∧ defScope st = iS k ∧ (q3.endLine == q5.line) = true) (ht : (prog.main.scope.names.lookup ("super" : Str)).isSome = false) :
    ∃ D' fI cc cda, XTxt prog K k (ga K C) D' fI cc cda := by
  obtain ⟨a1, h⟩ := ba h
  obtain ⟨a2, h⟩ := ba h
  obtain ⟨a3, h⟩ := ba h
  obtain ⟨a4, h⟩ := ba h
  obtain ⟨a5, h⟩ := ba h
  obtain ⟨a6, h⟩ := ba h
  obtain ⟨a7, h⟩ := ba h
  obtain ⟨a8, h⟩ := ba h
  obtain ⟨a9, h⟩ := ba h
  obtain ⟨a10, h⟩ := ba h
  obtain ⟨a11, h⟩ := ba h
  obtain ⟨a12, h⟩ := ba h
  obtain ⟨a13, h⟩ := ba h
  obtain ⟨a14, a15⟩ := ba h
  obtain ⟨p1, p2, q1, q2, q3, q4, q5, q6, q7, q8, q9, q10, e1, e2, e3, e4⟩ := hs
  rw [e1, e2, e3] at e
  obtain ⟨cc, cda, ⟨oc, od, kV, doc, pm, an, ct, osl, hl⟩, hcd, ⟨ccl, cdd, vs, ccs, tf, hc, hv⟩, cl, cld, csl, hcc⟩ := superB_ok e a15
  exact ⟨ga K D, ma K (ga K C) "__init__", cc, cda, ⟨excB_ok a1, eqO_ok a2, eqO_ok a3, eqO_ok a4, of_decide_eq_true a5, a6, of_decide_eq_true a7, of_decide_eq_true a8, of_decide_eq_true a9, a10, of_decide_eq_true a11, eqO_ok a12, eqO_ok a13, eqO_ok a14,
    ⟨oc, od, kV, doc, pm, an, ct, osl, p1, p2, q1, q2, q3, q4, q5, q6, q7, q8, q9, q10, hl, hcd, e4⟩, ⟨ccl, cdd, vs, ccs, _, tf, hc, hv, by simp⟩, ⟨cl, cld, csl, hcc⟩, ht⟩⟩
/-- such an exception's class, as a value -/
def xcB (K : PySem.W.Frag) (C : Str) : Bool :=
  eqO (findIn K (.ref (ga K C)) "__getattribute__") (some (some (.builtin "BaseException.__getattribute__"))) && (eqO (findIn K (.ref (ga K C)) "__getattr__") (some none) && (decide (subIn K (.ref (ga K C)) (.type "BaseException") = some true) && (hasDictIn K (ga K C) &&
  (eqO (findIn K (.ref (ga K C)) "__class__") (some (some (.builtin "object.__class__"))) && (eqO (specialIn K (.builtin "object.__class__") "__get__") (some (some (.builtin "getset_descriptor.__get__"))) && (decide (takesIn K (.builtin "object.__class__") = some true) && decide (mroIn K (ga K C) (.type "object") = some true)))))))
theorem xcB_ok {K : PySem.W.Frag} {C : Str} (h : xcB K C = true) : XC K (ga K C) := by
  obtain ⟨a1, h⟩ := ba h
  obtain ⟨a2, h⟩ := ba h
  obtain ⟨a3, h⟩ := ba h
  obtain ⟨a4, h⟩ := ba h
  obtain ⟨a5, h⟩ := ba h
  obtain ⟨a6, h⟩ := ba h
  obtain ⟨a7, a8⟩ := ba h
  exact ⟨eqO_ok a1, eqO_ok a2, of_decide_eq_true a3, a4, eqO_ok a5, eqO_ok a6, of_decide_eq_true a7, of_decide_eq_true a8⟩
/-! ### a property -/
def propB (K : PySem.W.Frag) (C f q : Str) : Bool :=
  eqO (findIn K (.ref (ga K C)) f) (some (some (.ref (ma K (ga K C) f)))) && (eqO (specialIn K (.ref (ma K (ga K C) f)) "__get__") (some (some (.builtin "property.__get__"))) && (decide (takesIn K (.ref (ma K (ga K C) f)) = some true) &&
  ((match recIn K (ma K (ga K C) f) "property" with
    | some (.ref _ :: _) => true
    | _ => false) && (keepIn K (.ref (getterAt K (ma K (ga K C) f))) && (match K.lookup (getterAt K (ma K (ga K C) f)) with
    | some ⟨_, _, .func fd, _⟩ => codeIn K fd.code q && (dflB K fd.defaults [] && (match fd.closure with
      | [] => true
      | _ => false))
    | _ => false)))))
theorem propB_ok {K : PySem.W.Frag} {C f q : Str} {st : Stmt} (h : propB K C f q = true) (e : fnY K (getterAt K (ma K (ga K C) f)) = fy f q (defArgs st) (defBody st) (defScope st)) :
    ∃ p g fd, PropOf K (ga K C) f p g ∧ FunD K f q (defArgs st) (defBody st) (defScope st) [] [] g fd := by
  obtain ⟨a1, h⟩ := ba h
  obtain ⟨a2, h⟩ := ba h
  obtain ⟨a3, h⟩ := ba h
  obtain ⟨a4, h⟩ := ba h
  obtain ⟨a5, a6⟩ := ba h
  have hr : ∃ rest, recIn K (ma K (ga K C) f) "property" = some (.ref (getterAt K (ma K (ga K C) f)) :: rest) := by
    split at a4
    · rename_i g rest hg
      refine ⟨rest, ?_⟩
      unfold getterAt
      rw [hg]
    · cases a4
  unfold fnY at e
  cases hq : K.lookup (getterAt K (ma K (ga K C) f)) with
  | none => rw [hq] at e; cases e
  | some o =>
    obtain ⟨oc, od, dt, osl⟩ := o
    rw [hq] at e a6
    cases dt with
    | func fd =>
      obtain ⟨n1, n2, n3, n4, n5, n6, n7, n8, n9, n10, n11, n12, n13, n14, n15⟩ := fd
      have e2 : (some (n1, n2, n3, n4, n5, n6, n15) : FnY) = some (f, q, defArgs st, .stmts (defBody st), defScope st, mainGlobals, builtinsNs) := e
      simp only [Option.some.injEq, Prod.mk.injEq] at e2
      obtain ⟨h1, h2, h3, h4, h5, h6, h7⟩ := e2
      subst h1 h2 h3 h4 h5 h6 h7
      dsimp only at a6
      obtain ⟨b1, b⟩ := ba a6
      obtain ⟨b2, b3⟩ := ba b
      split at b3
      · exact ⟨_, _, _, ⟨eqO_ok a1, eqO_ok a2, of_decide_eq_true a3, hr⟩, ⟨oc, od, n8, n9, n10, n11, n12, n13, n14, osl, rfl, hq, b1, dflB_ok b2, .inl rfl⟩, a5⟩
      · cases b3
    | _ => cases e
/-! ### a def that makes lambdas -/
def headB (K : PySem.W.Frag) (c : Addr) : Bool := match K.lookup c with
  | some ⟨.type t, _, .fields vs, _⟩ => decide (t = "code") && (match (vs[11]? : Option Value), (vs.getD 18 .none : Value), (vs.getD 7 .none : Value), (vs.getD 9 .none : Value), (vs.getD 10 .none : Value) with
    | some (Value.ref p), Value.str _ _, Value.int _ _, Value.bool _, Value.int _ _ => decide (c ≠ p)
    | _, _, _, _, _ => false)
  | _ => false
theorem headB_ok {K : PySem.W.Frag} {h : Heap} {c : Addr} (X : K.In h) (q : headB K c = true) : PySem.W.CodeHd h c (tabAt K c) := by
  unfold headB at q
  split at q
  · rename_i t od vs sl ho
    obtain ⟨q1, q⟩ := ba q
    have e : t = "code" := of_decide_eq_true q1
    subst e
    split at q
    · rename_i p file tf flags tg inF text tt h1 h2 h3 h4 h5
      have et : tabAt K c = p := by
        unfold tabAt
        rw [ho]
        dsimp only
        rw [h1]
      rw [et]
      refine ⟨_, vs, file, tf, flags, tg, inF, text, tt, X _ _ ho, rfl, rfl, h1, ?_, h2, h3, h4, h5, of_decide_eq_true q⟩
      rw [Array.getD_eq_getD_getElem?, h1]
      rfl
    · cases q
  · cases q
theorem codeAt_ok {K : PySem.W.Frag} {x qual : Str} {params : Arguments} {body : List Stmt} {scope : Scope} {dvs : List V} {kws : List (Str × V)} {f : Addr} {fd : FuncData} (F : FunD K x qual params body scope dvs kws f fd) : fd.code = .ref (codeAt K f) := by
  obtain ⟨oc, od, dV, kV, doc, pm, an, cdv, ct, osl, rfl, lk, hcd, _, _⟩ := F.ex
  unfold codeAt
  rw [lk]
  dsimp only
  show cdv = _
  unfold codeIn at hcd
  cases cdv with
  | ref a => rfl
  | _ => cases hcd
/-- an empty table -/
def isTab : Option Obj → Bool
  | some ⟨.none, none, .fields vs, sl⟩ => vs.isEmpty && sl.isEmpty
  | _ => false
theorem isTab_ok {o : Option Obj} (h : isTab o = true) : o = some { cls := .none, data := .fields #[] } := by
  unfold isTab at h
  split at h
  · rename_i vs sl
    obtain ⟨h1, h2⟩ := ba h
    rw [Array.isEmpty_iff.mp h1, Array.isEmpty_iff.mp h2]
  · cases h
/-! ### keys that a table has not -/
theorem ns_miss {K : PySem.W.Frag} {P : Params} {a : Addr} {ks : List Str} (h : dicW K a = some (keysIn P ks)) {z : Str} (hz : z ∉ ks) : nsIn K a z = some none := by
  unfold dicW at h
  cases q : K.lookup a with
  | none => rw [q] at h; cases h
  | some o =>
    obtain ⟨oc, od, dt, osl⟩ := o
    rw [q] at h
    cases oc with
    | type c =>
      cases od with
      | none =>
        cases dt with
        | dict es n =>
          have h1 : (match decide (c = "dict") && (osl.isEmpty && !(a == sysModules)) with
            | true => some (es.toList.map He.keyOf)
            | false => none) = some (keysIn P ks) := h
          split at h1
          · have hk := keysLit_of (Option.some.inj h1)
            have e1 := Option.some.inj h1
            have key : ∀ e ∈ es.toList, ∃ k ∈ ks, ∃ t, e.key = .str k t := by
              intro e he
              have hm : He.keyOf e ∈ keysIn P ks := by rw [← e1]; exact List.mem_map_of_mem he
              obtain ⟨k, hk1, hk2⟩ := List.mem_map.mp hm
              unfold He.keyOf at hk2
              split at hk2
              · rename_i x t hx
                have hk3 := congrArg Prod.fst (Option.some.inj hk2)
                have hk4 : k = x := hk3
                exact ⟨k, hk1, t, by rw [hx, hk4]⟩
              · cases hk2
            unfold nsIn
            rw [q]
            dsimp only
            have n1 : es.toList.find? (·.key.isStr z) = none := by
              rw [List.find?_eq_none]
              intro e he hc
              obtain ⟨k, hk1, t, hk2⟩ := key e he
              rw [hk2] at hc
              have ez : k = z := by
                have h3 : (Value.str k t).isStr z = true := hc
                unfold Value.isStr at h3
                first
                  | exact beq_iff_eq.mp h3
                  | simpa using h3
              rw [ez] at hk1
              exact hz hk1
            rw [n1]
            have n2 : es.toList.any (·.refKey) = false := by
              rw [List.any_eq_false]
              intro e he hc
              obtain ⟨k, hk1, t, hk2⟩ := key e he
              unfold DictEntry.refKey at hc
              rw [hk2] at hc
              exact absurd hc (by simp)
            dsimp only
            rw [n2]
            rfl
          · cases h1
        | _ => cases h
      | some b => cases dt <;> cases h
    | _ => cases od <;> cases dt <;> cases h
/-! ### the Hook -/
/-- from the names alone (the table of the module is not followed), breadth first, what was seen as the bits of a number -/
def newsX {α : Type} : List Addr → Nat → List Addr → (List Addr → Nat → α) → α
  | [], v, acc, k => k acc v
  | a :: r, v, acc, k => HandSHeadRun.frNat a fun a => match Nat.testBit v a with
    | true => newsX r v acc k
    | false => HandSHeadRun.frNat (Nat.lor v (Nat.shiftLeft 1 a)) fun v => newsX r v (a :: acc) k
def bfsX (g : Addr → Option Obj) : Nat → List Addr → Nat → List Addr → List Addr
  | 0, _, _, acc => acc
  | n + 1, fr, v, acc => newsX (fr.flatMap fun a => match g a with
    | some o => refsD o
    | none => []) v [] fun new v => bfsX g n new v (acc ++ new)
def asX (g : Addr → Option Obj) (rt : List Str) (n : Nat) : List Addr :=
  newsX (mainGlobals :: cStatics :: rt.map fun x => ga (frG g [mainGlobals]) x) 0 [] fun new v => (bfsX g n (new.filter fun a => !(Nat.beq a mainGlobals || Nat.beq a cStatics)) v new).filter fun a => !isTab (g a)
abbrev Gf : Type := (PySem.W.Frag → Addr) × FnY
abbrev AlX : Type := AlT × List FnY × Bool
structure Spec where
  n : Nat
  fa : List Fa
  fn : List DefD
  ts : List Tab
  gs : List Gf
  ck : PySem.W.Frag → Bool
  lam : List Str
  rt : List Str
def tabsB (S : Spec) (g : Addr → Option Obj) (K : PySem.W.Frag) : Bool := S.lam.all fun x => headB K (codeAt K (ga K x)) && (isTab (g (tabAt K (codeAt K (ga K x)))) && (K.lookup (tabAt K (codeAt K (ga K x)))).isNone)
def obsX (S : Spec) (g : Addr → Option Obj) (K : PySem.W.Frag) : AlX := (obsT S.fa S.fn S.ts K, S.gs.map fun p => fnY K (p.1 K), S.ck K && tabsB S g K)
def valX (S : Spec) (w : World) : AlX := (valT S.fn S.ts w, S.gs.map (·.2), true)
def obsXG (S : Spec) (g : Addr → Option Obj) : AlX := obsX S g (frG g (asX g S.rt S.n))
structure SaysX (S : Spec) (w : World) (h : Heap) (K : PySem.W.Frag) : Prop where
  t : SaysT S.fa S.fn S.ts w K
  g : S.gs.map (fun p => fnY K (p.1 K)) = S.gs.map (·.2)
  c : S.ck K = true
  l : ∀ x ∈ S.lam, PySem.W.CodeHd h (codeAt K (ga K x)) (tabAt K (codeAt K (ga K x))) ∧ h.get? (tabAt K (codeAt K (ga K x))) = some { cls := .none, data := .fields #[] } ∧ K.lookup (tabAt K (codeAt K (ga K x))) = none
theorem SaysX.of {S : Spec} {w : World} {s : Shared} (e : obsXG S s.heap.get? = valX S w) : ∃ K : PySem.W.Frag, K.In s.heap ∧ SaysX S w s.heap K := by
  refine ⟨_, frG_in (as := asX s.heap.get? S.rt S.n), ?_⟩
  have h1 := congrArg (fun z : AlX => z.1) e
  have h2 := congrArg (fun z : AlX => z.2.1) e
  have h3 : (S.ck _ && tabsB S _ _) = true := congrArg (fun z : AlX => z.2.2) e
  obtain ⟨h4, h5⟩ := ba h3
  refine ⟨h1, h2, h4, fun x hx => ?_⟩
  have h6 := List.all_eq_true.mp h5 x hx
  obtain ⟨k1, k⟩ := ba h6
  obtain ⟨k2, k3⟩ := ba k
  exact ⟨headB_ok frG_in k1, isTab_ok k2, Option.isNone_iff_eq_none.mp k3⟩
theorem SaysX.keeps {S : Spec} {w : World} {h h' : Heap} {K : PySem.W.Frag} (c : SaysX S w h K) (k : ∀ b o, h.get? b = some o → h'.get? b = some o) : SaysX S w h' K :=
  ⟨c.t, c.g, c.c, fun x hx => ⟨(c.l x hx).1.keeps k, k _ _ (c.l x hx).2.1, (c.l x hx).2.2⟩⟩
def hookX (S : Spec) : PySem.W.Hook where
  α := AlX
  obs := fun s => obsXG S s.heap.get?
  val := fun w => valX S w
  says := fun w h => ∃ K : PySem.W.Frag, K.In h ∧ SaysX S w h K
  of := fun _ _ e => SaysX.of e
  keeps := fun _ _ _ ⟨K, hK, c⟩ k => ⟨K, PySem.W.Frag.In.keeps hK k, c.keeps k⟩
theorem obsXG_eq {S : Spec} {g : Addr → Option Obj} {s : Shared} (h : ∀ a, g a = s.heap.get? a) : obsXG S g = (hookX S).obs s := by
  have e : g = s.heap.get? := funext h
  rw [e] <;> rfl
section
variable {S : Spec} {w : World} {h : Heap} {K : PySem.W.Frag}
theorem SaysX.gf (c : SaysX S w h K) (i : Nat) {p : Gf} (e : S.gs[i]? = some p) : fnY K (p.1 K) = p.2 := by
  have e2 : (S.gs.map (fun p => fnY K (p.1 K)))[i]? = (S.gs.map (·.2))[i]? := by rw [c.g]
  rw [List.getElem?_map, List.getElem?_map, e] at e2
  exact Option.some.inj e2
end
end HX
set_option maxHeartbeats 4000000
namespace K5
open PySem L2
def top (i : Nat) : Stmt := PySem.Challenge.pw_restsallowed_k25_across_errors_of_lots_a.main.body.getD i (.Pass ⟨0, 0, 0, 0⟩)
abbrev sBegun : Stmt := top 122
abbrev sBlend : Stmt := top 123
abbrev sDraw : Stmt := top 124
abbrev sPick : Stmt := top 125
abbrev sCaught : Stmt := top 126
/-! ### the law's own helpers -/
structure TxL (K : PySem.W.Frag) (mg : Str → Option Value) : Prop where
  begun : Def K mg "_law_begun" sBegun
  blend : Def K mg "_law_blend" sBlend
  draw : Def K mg "_law_draw" sDraw
  pick : Def K mg "_law_pick" sPick
  abs : mg "abs" = none
  int : mg "int" = none
  len : mg "len" = none
theorem cpow {i j : Int} (h1 : 0 ≤ j) (h2 : j ≤ 1000000) (h3 : i.natAbs < 2 ^ 64) : CPow i j := ⟨h1, h2, h3⟩
theorem cmulR {i j : Int} (h1 : -(2 ^ 64) < j) (h2 : j < 2 ^ 64) : CMul i j := .inr ⟨h1, h2⟩
theorem cmulL {i j : Int} (h1 : -(2 ^ 64) < i) (h2 : i < 2 ^ 64) : CMul i j := .inl ⟨h1, h2⟩
theorem cdiv {i j : Int} (h1 : 0 < j) (h2 : j < 1073741824) : CDiv i j := ⟨h1, h2⟩
local macro_rules | `(tactic| walk_at "rd") => `(tactic| (repeat (first
  | (refine ⟨_, rfl, ?_⟩)
  | (refine ⟨_, _, rfl, rfl, ?_⟩)
  | (refine ⟨cpow (by decide) (by decide) (by decide), ?_⟩)
  | (refine ⟨cmulR (by decide) (by decide), ?_⟩)
  | (refine ⟨cdiv (by first | decide | omega) (by first | decide | omega), ?_⟩))))
section
variable {P : Program} {w : World} {K : PySem.W.Frag} {mg : Str → Option Value} {base : Heap}
theorem scBegun : FnScope ["script", "large", "grain"] ["script"] (defScope sBegun) := ⟨rfl, rfl, rfl, by decide +kernel, rfl, by decide +kernel, by decide +kernel⟩
theorem ok_begun (T : TxL K mg) : Fnc P w K mg base CX0 1 "_law_begun" ["script"] (spBegun K) := by
  refine fnc0 T.begun scBegun (fun vs H Q E h => ?_) (fun _ _ _ _ _ _ us hl => match us, hl with | [_], _ => rfl) (fun cdv A outer s H vs Q E hr h => ?_)
  · obtain ⟨a, ns, rfl, _⟩ := h
    rfl
  · obtain ⟨a, ns, rfl, hS, hlen, k⟩ := h
    refine ⟨_, pss_cons (ps_setLc (i := 1) (own := [("grain", 2)]) (g := gName 2) rfl scBegun.nd rfl rfl (sw_true rfl rfl rfl (by decide +kernel)) (pi_list (pv 0)) (blkOk_by (N := ["script", "large", "grain"]) (sc := defScope sBegun) (by decide +kernel))
        (fun _ _ _ _ _ => pg_name (i := 2) scBegun.nd rfl (Or.inl rfl)) (fun _ _ _ _ _ => pts_one (pt_cmpR op_ge (pe_callB call_abs (by rfl) T.abs (by decide +kernel) (pa_cons (pv 2) pa_nil)) (pe_op op_pow pe_int pe_int) (nomark _)))
        (fun _ _ _ _ _ => pe_op op_sub (pe_callB call_abs (by rfl) T.abs (by decide +kernel) (pa_cons (pv 2) pa_nil)) (pe_op op_pow pe_int pe_int)))
      (pss_one (ps_ret (pe_disp (pps_cons pe_str (pv 1) (pps_cons pe_str pe_int (pps_cons pe_str
        (pe_lc (own := [("grain", 2)]) (g := gName 2) (tt := tYes) rfl scBegun.nd (pi_list (pv 0)) (blkOk_by (N := ["script", "large", "grain"]) (sc := defScope sBegun) (by decide +kernel))
          (fun _ _ _ _ _ => pg_name (i := 2) scBegun.nd rfl (Or.inl rfl)) (fun _ _ _ _ _ => pts_nil) (fun _ _ _ _ _ => pe_callB call_abs (by rfl) T.abs (by decide +kernel) (pa_cons (pv 2) pa_nil)))
        (pps_cons pe_str pe_int pps_nil)))) (by rfl) (by rfl) (fun z => by cases z) (by decide)))), ?_⟩
    refine ⟨_, rfl, a, rfl, ⟨_, hS⟩, fun D hD => lc_list (K := K) (a := a) (xs := ns.map V.int) (fun i H2 => Same H H2 ∧ ∃ zs : List Int, H2 D = some (.lst (zs.map V.int)) ∧ zs.length ≤ i) ⟨Same.upd hD, [], upd_same, Nat.le_refl _⟩ (fun i H2 _ h => h.1.seq hS) ?_ ?_⟩
    · rintro i x H2 hx ⟨s2, zs, hz, hl⟩
      obtain ⟨z, hz1, rfl⟩ := map_get hx
      refine ⟨rfl, ?_⟩
      walk_at "rd"
      refine ite2 (fun hc => ?_) (fun hc => ?_)
      · walk_at "rd"
        have hi := (List.getElem?_eq_some_iff.mp hz1).1
        refine ⟨_, hz, small1000 (by rw [List.length_map]; omega), s2.put hD, zs ++ [(if z < 0 then -z else z) - 10 ^ Int.toNat 18], ?_, by rw [List.length_append, List.length_singleton]; omega⟩
        rw [upd_same, ← map_snoc]
      · exact ⟨s2, zs, hz, by omega⟩
    · rintro H2 ⟨s2, zs, hz, hl⟩
      intro p hp
      walk_at "rd"
      have s3 : Same H (upd H2 p (.dK [])) := s2.trans (Same.upd hp)
      have nDp : D ≠ p := ne_of_none hz hp
      refine ⟨⟨_, s3.seq hS⟩, fun D2 hD2 => lc_list (K := K) (a := a) (xs := ns.map V.int) (fun i H3 => Same H H3 ∧ H3 p = some (.dK []) ∧ H3 D = some (.lst (zs.map V.int)) ∧ ∃ cs : List Int, H3 D2 = some (.lst (cs.map V.int)) ∧ cs.length ≤ i) ?_ (fun i H3 _ h => h.1.seq hS) ?_ ?_⟩
      · have hp2 : p ≠ D2 := ne_of_none upd_same hD2
        have hz2 : (upd H2 p (HO.dK [])) D = some (.lst (zs.map V.int)) := by rw [upd_ne nDp]; exact hz
        exact ⟨s3.trans (Same.upd hD2), by rw [upd_ne hp2]; exact upd_same, by rw [upd_ne (ne_of_none hz2 hD2)]; exact hz2, [], upd_same, Nat.le_refl _⟩
      · rintro i x H3 hx ⟨s4, hp3, hz3, cs, hc, hl2⟩
        obtain ⟨z, hz1, rfl⟩ := map_get hx
        have hi := (List.getElem?_eq_some_iff.mp hz1).1
        have nD2 : H D2 = none := s3.free hD2
        have hp2 : p ≠ D2 := ne_of hp3 hc (by intro z; cases z)
        have hD12 : D ≠ D2 := fun e => by
          rw [← e, upd_ne nDp, hz] at hD2
          cases hD2
        refine ⟨rfl, ?_⟩
        walk_at "rd"
        refine ⟨_, hc, small1000 (by rw [List.length_map]; omega), s4.put nD2, by rw [upd_ne hp2]; exact hp3, by rw [upd_ne hD12]; exact hz3, cs ++ [if z < 0 then -z else z], ?_, by rw [List.length_append, List.length_singleton]; omega⟩
        rw [upd_same, ← map_snoc]
      · rintro H3 ⟨s4, hp3, hz3, cs, hc, hl2⟩
        refine ⟨hp3, tapeL D D2 0 0, rfl, (by show 4 ≤ 15; decide), ?_⟩
        have np : H p = none := s2.free hp
        have hD12 : D ≠ D2 := fun e => by
          rw [← e, upd_ne nDp, hz] at hD2
          cases hD2
        refine k p D D2 _ (s4.put np) np hD (s3.free hD2) ⟨⟨0, 0, zs, cs, ?_, ?_, ?_⟩, hD12⟩
        · rw [upd_same, merge_tape]
        · rw [upd_ne nDp]
          exact hz3
        · rw [upd_ne (ne_of hc hp3 (by intro z; cases z))]
          exact hc
theorem scBlend : FnScope ["tape", "turn", "found", "great", "blended", "grain"] ["tape"] (defScope sBlend) := ⟨rfl, rfl, rfl, by decide +kernel, rfl, by decide +kernel, by decide +kernel⟩
theorem great_at {i : Nat} {y : V} (h : [V.int 2147483629, V.int 2147483587, V.int 2147483579][i]? = some y) : ∃ g : Int, y = .int g ∧ 0 < g ∧ g < 2147483648 := by
  match i, h with
  | 0, h => exact ⟨_, (Option.some.inj h).symm, by decide, by decide⟩
  | 1, h => exact ⟨_, (Option.some.inj h).symm, by decide, by decide⟩
  | 2, h => exact ⟨_, (Option.some.inj h).symm, by decide, by decide⟩
  | i + 3, h => simp at h
theorem pow_small {b g : Int} (h0 : 0 ≤ b) (h1 : b < g) (h2 : g < 2147483648) : b.natAbs < 2 ^ 64 := by
  have e : (2 : Nat) ^ 64 = 18446744073709551616 := by decide
  rw [e]
  omega
theorem ok_blend (T : TxL K mg) : Fnc P w K mg base CX0 1 "_law_blend" ["tape"] spBlend := by
  refine fnc0 T.blend scBlend (fun vs H Q E h => ?_) (fun _ _ _ _ _ _ us hl => match us, hl with | [_], _ => rfl) (fun cdv A outer s H vs Q E hr h => ?_)
  · obtain ⟨t, l, c, rfl, _⟩ := h
    rfl
  · obtain ⟨t, l, c, rfl, TT, k⟩ := h
    have hu := hu_of hr
    refine ⟨_, pss_cons (ps_dput hu (pv 0) pe_str (pe_op op_add (pe_dget hu (pv 0) pe_str (fun _ _ => rfl)) pe_int) rfl)
      (pss_cons (ps_par (by rfl) scBlend.nd (i := 1) (j := 2) rfl rfl (by decide) rfl rfl (pa_cons (pe_callTy call_int1 (by rfl) T.int (by decide +kernel) (pa_cons (pe_dget hu (pv 0) pe_str (fun _ _ => rfl)) pa_nil)) (pa_cons pe_int pa_nil)) (by rfl))
      (pss_cons (ps_for PassesOwn.never rfl (pi_list (pe_lst (pa_cons pe_int (pa_cons pe_int (pa_cons pe_int pa_nil))))) (pg_name (i := 3) scBlend.nd rfl (Or.inl rfl))
        (pss_cons (ps_set (i := 4) scBlend.nd rfl (Or.inl rfl) (pe_op op_mod (pe_op op_add (pe_op op_mul (pv 1) pe_int) (pe_op op_fdiv (pv 3) pe_int)) (pv 3)))
        (pss_cons (ps_for PassesOwn.never rfl (pi_list (pe_dget hu (pv 0) pe_str (fun _ _ => rfl))) (pg_name (i := 5) scBlend.nd rfl (Or.inl rfl))
          (pss_one (ps_set (i := 4) scBlend.nd rfl (Or.inl rfl) (pe_op op_mod (pe_op op_add (pe_op op_mul (pv 4) pe_int) (pe_callTy call_int1 (by rfl) T.int (by decide +kernel) (pa_cons (pv 5) pa_nil))) (pv 3)))))
        (pss_one (ps_set (i := 2) scBlend.nd rfl (Or.inl rfl) (pe_op op_add (pe_op op_mul (pv 2) pe_int) (pe_op op_mod (pe_op op_pow (pv 4) pe_int) (pv 3))))))))
      (pss_one (ps_ret (pv 2))))), ?_⟩
    obtain ⟨r, n, lg, cs, h1, h2, h3⟩ := TT.ex
    have tl := TT.tl
    have tc := TT.tc
    -- tape['turn'] = tape['turn'] + 1
    refine ⟨_, rfl, t, .int n, rfl, dg_turn h1, _, _, rfl, rfl, _, rfl, t, _, rfl, dp_turn _ h1, ?_⟩
    -- turn, found = (int(tape['turn']), 0)
    refine ⟨_, rfl, t, .int (n + 1), rfl, dg_turn upd_same, .inl ⟨_, rfl, _, _, rfl, ?_⟩⟩
    -- the loops
    refine ⟨by decide, fun p hp => ⟨p, rfl, ⟨_, SqL.of upd_same⟩, for_list (K := K) (a := p) (xs := [V.int 2147483629, V.int 2147483587, V.int 2147483579]) (fun i σ H2 => ∃ (f : Int) (gv bv rv : Option V), σ = [some (.ref t), some (.int (n + 1)), some (.int f), gv, bv, rv] ∧ Same (upd H t (.dK (tapeL l c r (n + 1)))) H2 ∧ H2 p = some (.lst [V.int 2147483629, V.int 2147483587, V.int 2147483579]))
      ⟨0, none, none, none, rfl, Same.upd hp, upd_same⟩ (fun i σ H2 _ ⟨_, _, _, _, _, _, h⟩ => SqL.of h) ?_ ?_⟩⟩
    · rintro i y σ H2 hy ⟨f, gv, bv, rv, rfl, s2, hp2⟩
      obtain ⟨g, rfl, hg0, hg1⟩ := great_at hy
      have ht2 : H2 t = some (.dK (tapeL l c r (n + 1))) := s2 _ _ upd_same
      have hc2 : H2 c = some (.lst (cs.map V.int)) := s2 _ _ (by rw [upd_ne (Ne.symm tc)]; exact h3)
      -- blended = (turn * 69621 + great // 7) % great
      walk_at "rd"
      refine ⟨hg0, ?_⟩
      -- for grain in tape['cells']
      refine ⟨_, rfl, t, .ref c, rfl, dg_cells ht2, c, rfl, ⟨_, SqL.of hc2⟩, for_list (K := K) (a := c) (xs := cs.map V.int) (fun j σ H3 => ∃ (b : Int) (rv : Option V), σ = [some (.ref t), some (.int (n + 1)), some (.int f), some (.int g), some (.int b), rv] ∧ 0 ≤ b ∧ b < g ∧ H3 = H2)
        ⟨_, rv, rfl, Int.emod_nonneg _ (by omega), Int.emod_lt_of_pos _ hg0, rfl⟩ (fun j σ H3 _ ⟨_, _, _, _, _, h⟩ => by rw [h]; exact SqL.of hc2) ?_ ?_⟩
      · rintro j y σ H3 hy ⟨b, rv, rfl, b0, b1, rfl⟩
        obtain ⟨z, _, rfl⟩ := map_get hy
        walk_at "rd"
        refine .inl ⟨_, rfl, ?_⟩
        walk_at "rd"
        refine ⟨hg0, ?_⟩
        exact ⟨_, _, rfl, Int.emod_nonneg _ (by omega), Int.emod_lt_of_pos _ hg0, rfl⟩
      · rintro σ H3 ⟨b, rv, rfl, b0, b1, rfl⟩
        walk_at "rd"
        refine ⟨cpow (by decide) (by decide) (pow_small b0 b1 hg1), ?_⟩
        walk_at "rd"
        refine ⟨hg0, ?_⟩
        walk_at "rd"
        exact ⟨_, _, _, _, rfl, s2, hp2⟩
    · rintro σ H2 ⟨f, gv, bv, rv, rfl, s2, hp2⟩
      refine ⟨_, rfl, k f H2 ⟨⟨r, n + 1, lg, cs, s2 _ _ upd_same, s2 _ _ (by rw [upd_ne (Ne.symm tl)]; exact h2), s2 _ _ (by rw [upd_ne (Ne.symm tc)]; exact h3)⟩, TT.lc⟩ fun b o e hb => s2 _ _ (by rw [upd_ne hb]; exact e)⟩
theorem scDraw : FnScope ["tape", "size", "found"] ["tape", "size"] (defScope sDraw) := ⟨rfl, rfl, rfl, by decide +kernel, rfl, by decide +kernel, by decide +kernel⟩
theorem ok_draw (T : TxL K mg) : Fnc P w K mg base CX0 2 "_law_draw" ["tape", "size"] spDraw := by
  have GB : Fnc P w K mg base CX0 1 "_law_blend" ["tape"] spBlend := ok_blend T
  refine fnc0 T.draw scDraw (fun vs H Q E h => ?_) (fun _ _ _ _ _ _ us hl => match us, hl with | [_, _], _ => rfl) (fun cdv A outer s H vs Q E hr h => ?_)
  · obtain ⟨t, l, c, m, rfl, _⟩ := h
    rfl
  · obtain ⟨t, l, c, m, rfl, m0, m1, TT, k⟩ := h
    have hu := hu_of hr
    refine ⟨_, pss_cons (ps_if (pt_cmpR op_eq (pe_dget hu (pv 0) pe_str (fun _ _ => rfl)) pe_int (nomark _))
        (pss_one (ps_dput hu (pv 0) pe_str (pe_ifExp (pt_cmpR (op_neD hr.units) (pe_dget hu (pv 0) pe_str (fun _ _ => rfl)) (pe_lst pa_nil) (nomark _))
          (pe_bm PySem.F.plainAttrs_list PySem.F.slot_list_pop PySem.F.type_list_pop mt_popAt (pe_dget hu (pv 0) pe_str (fun _ _ => rfl)) (pa_cons pe_int pa_nil))
          (pe_fn GB hr pass0 (pa_cons (pv 0) pa_nil))) rfl)) pss_nil)
      (pss_cons (ps_set (i := 2) scDraw.nd rfl (Or.inl rfl) (pe_op op_mod (pe_callTy call_int1 (by rfl) T.int (by decide +kernel) (pa_cons (pe_dget hu (pv 0) pe_str (fun _ _ => rfl)) pa_nil)) (pv 1)))
      (pss_cons (ps_dput hu (pv 0) pe_str (pe_op op_fdiv (pe_callTy call_int1 (by rfl) T.int (by decide +kernel) (pa_cons (pe_dget hu (pv 0) pe_str (fun _ _ => rfl)) pa_nil)) (pv 1)) rfl)
      (pss_one (ps_ret (pv 2))))), ?_⟩
    obtain ⟨r, n, lg, cs, h1, h2, h3⟩ := TT.ex
    have tl := TT.tl
    have tc := TT.tc
    -- what is behind the if
    have tail : ∀ H2 : Hp, Tape H2 t l c → But t l H H2 → tSeq
        (tAsg (tOp (rI (fun _ j => 0 < j) fun i j => V.int (i % j)) (tCB (fun xs H Q => (∃ i, xs = [V.int i] ∧ Q (V.int i) H) ∨ ∃ k, xs = [V.bl k] ∧ Q (V.int (if k then 1 else 0)) H) (tCons (tDGet (tVar 0) (tC (.str "rest"))) tNil)) (tVar 1)) (gName 2))
        (tSeq (sDPut (tVar 0) (tC (.str "rest")) (tOp (rI CDiv fun i j => V.int (i / j)) (tCB (fun xs H Q => (∃ i, xs = [V.int i] ∧ Q (V.int i) H) ∨ ∃ k, xs = [V.bl k] ∧ Q (V.int (if k then 1 else 0)) H) (tCons (tDGet (tVar 0) (tC (.str "rest"))) tNil)) (tVar 1)))
        (tRet (tVar 2))) { nx := fun _ H' => Q .non H', rt := Q } [some (.ref t), some (.int m), none] H2 := by
      intro H2 T2 b2
      obtain ⟨r, n, lg, cs, h1, h2, h3⟩ := T2.ex
      refine ⟨_, rfl, t, .int r, rfl, dg_rest h1, .inl ⟨_, rfl, _, rfl, _, _, rfl, rfl, m0, ?_⟩⟩
      refine ⟨_, rfl, t, .int r, rfl, dg_rest h1, .inl ⟨_, rfl, _, rfl, _, _, rfl, rfl, ⟨m0, m1⟩, _, rfl, t, _, rfl, dp_rest _ h1, _, rfl, ?_⟩⟩
      refine k (r % m) _ (Int.emod_nonneg _ (by omega)) (Int.emod_lt_of_pos _ m0) ⟨⟨_, n, lg, cs, upd_same, by rw [upd_ne (Ne.symm T2.tl)]; exact h2, by rw [upd_ne (Ne.symm T2.tc)]; exact h3⟩, T2.lc⟩ fun b o e ht hl => ?_
      rw [upd_ne ht]
      exact b2 b o e ht hl
    refine ⟨_, rfl, t, .int r, rfl, dg_rest h1, rfl, _, rfl, ?_⟩
    refine ite2 (fun _ => ?_) (fun _ => tail H TT .refl)
    -- tape['rest'] = ..
    refine ⟨_, rfl, t, .ref l, rfl, dg_large h1, by decide, fun p hp => ⟨_, _, dp_ints (SqL.of (by rw [upd_ne (ne_of_none h2 hp)]; exact h2)), dp_nil (SqL.of upd_same), shaped_ints _, shaped_nil, _, rfl, ?_⟩⟩
    have g1 : (upd H p (.lst [])) t = some (.dK (tapeL l c r n)) := by rw [upd_ne (ne_of_none h1 hp)]; exact h1
    have g2 : (upd H p (.lst [])) l = some (.lst (lg.map V.int)) := by rw [upd_ne (ne_of_none h2 hp)]; exact h2
    have g3 : (upd H p (.lst [])) c = some (.lst (cs.map V.int)) := by rw [upd_ne (ne_of_none h3 hp)]; exact h3
    rw [eqv_nilL]
    cases lg with
    | nil =>
      refine iteF ?_
      refine ⟨_, rfl, t, l, c, rfl, ⟨⟨r, n, [], cs, g1, g2, g3⟩, TT.lc⟩, fun v H2 T2 b2 => ?_⟩
      obtain ⟨r2, n2, lg2, cs2, k1, k2, k3⟩ := T2.ex
      refine ⟨_, rfl, t, _, rfl, dp_rest v k1, ?_⟩
      refine tail _ ⟨⟨v, n2, lg2, cs2, upd_same, by rw [upd_ne (Ne.symm tl)]; exact k2, by rw [upd_ne (Ne.symm tc)]; exact k3⟩, TT.lc⟩ fun b o e ht hl => ?_
      rw [upd_ne ht]
      exact b2 b o (by rw [upd_ne (ne_of_none e hp)]; exact e) ht
    | cons z lg =>
      refine iteT ?_
      refine ⟨_, rfl, t, .ref l, rfl, dg_large g1, .inl ⟨rfl, _, SqL.of g2⟩, l, _, 0, 0, V.int z, rfl, rfl, g2, by decide, by decide, (by simp [seqIndex?]), rfl, ?_⟩
      have q1 : (upd (upd H p (.lst [])) l (.lst (((z :: lg).map V.int).eraseIdx 0))) t = some (.dK (tapeL l c r n)) := by rw [upd_ne tl]; exact g1
      refine ⟨_, rfl, t, _, rfl, dp_rest z q1, ?_⟩
      refine tail _ ⟨⟨z, n, lg, cs, upd_same, ?_, ?_⟩, TT.lc⟩ fun b o e ht hl => ?_
      · rw [upd_ne (Ne.symm tl), upd_same]
        rfl
      · rw [upd_ne (Ne.symm tc), upd_ne (Ne.symm TT.lc)]
        exact g3
      · rw [upd_ne ht, upd_ne hl, upd_ne (ne_of_none e hp)]
        exact e
theorem scPick : FnScope ["tape", "several"] ["tape", "several"] (defScope sPick) := ⟨rfl, rfl, rfl, by decide +kernel, rfl, by decide +kernel, by decide +kernel⟩
theorem ok_pick (T : TxL K mg) : Fnc P w K mg base CX0 3 "_law_pick" ["tape", "several"] (spPick K) := by
  have GD : Fnc P w K mg base CX0 2 "_law_draw" ["tape", "size"] spDraw := ok_draw T
  refine fnc0 T.pick scPick (fun vs H Q E h => ?_) (fun _ _ _ _ _ _ us hl => match us, hl with | [_, _], _ => rfl) (fun cdv A outer s H vs Q E hr h => ?_)
  · obtain ⟨t, l, c, a, xs, rfl, _⟩ := h
    rfl
  · obtain ⟨t, l, c, a, xs, rfl, hS, hne, hlt, at_, al, TT, k⟩ := h
    refine ⟨_, pss_one (ps_ret (pe_ix ix_list (pv 1) (pe_fn GD hr pass0 (pa_cons (pv 0) (pa_cons (pe_callB call_len_seq (by rfl) T.len PySem.boot_len (pa_cons (pv 1) pa_nil)) pa_nil))) (fun _ _ => rfl))), ?_⟩
    have h0 : 0 < xs.length := List.length_pos_iff.mpr hne
    refine ⟨_, rfl, _, rfl, _, rfl, a, xs, rfl, .inl hS, t, l, c, _, rfl, by omega, by omega, TT, fun d H' d0 d1 T' b' => ?_⟩
    have hd : d.toNat < xs.length := by omega
    exact ⟨a, xs, d, xs[d.toNat], rfl, rfl, b'.seq at_ al hS, atI_int d0 (List.getElem?_eq_getElem hd), k d.toNat _ H' (List.getElem?_eq_getElem hd) T' b'⟩
end
end K5
set_option maxHeartbeats 4000000
namespace K5
open PySem L2 PySem.EX PyProof.Rows
structure TxP (prog : Program) (K : PySem.W.Frag) (mg : Str → Option Value) : Prop where
  is_number : Def K mg "is_number" (top 2)
  is_between : Def K mg "is_between" (top 3)
  is_rising : Def K mg "is_rising" (top 5)
  is_tuple_of : Def K mg "is_tuple_of" (top 6)
  is_state : Def K mg "is_state" (top 41)
  need_switches : Def K mg "need_switches" (top 57)
  need_apart_number : Def K mg "need_apart_number" (top 58)
  is_apart_lot : Def K mg "is_apart_lot" (top 61)
  most_apart : Def K mg "most_apart" (top 62)
  need_many_states : Def K mg "need_many_states" (top 63)
  apart_paper : Def K mg "apart_paper" (top 66)
  is_apart_paper : Def K mg "is_apart_paper" (top 67)
  ball_many : Def K mg "ball_many" (top 68)
  packing_bound : Def K mg "packing_bound" (top 69)
  need_full_kind : Def K mg "need_full_kind" (top 70)
  need_full : Def K mg "need_full" (top 71)
  full_plan : Def K mg "full_plan" (top 72)
  full_fits : Def K mg "full_fits" (top 74)
  most_full : Def K mg "most_full" (top 75)
  full_paper : Def K mg "full_paper" (top 76)
  is_full_paper : Def K mg "is_full_paper" (top 77)
  even_net : Def K mg "even_net" (top 78)
  middle_net : Def K mg "middle_net" (top 79)
  states_of_ones : Def K mg "states_of_ones" (top 80)
  need_lot : Def K mg "need_lot" (top 81)
  fewest_chains : Def K mg "fewest_chains" (top 91)
  greatest_crossing : Def K mg "greatest_crossing" (top 92)
  need_crossing_number : Def K mg "need_crossing_number" (top 93)
  crossing_paper : Def K mg "crossing_paper" (top 94)
  is_crossing_paper : Def K mg "is_crossing_paper" (top 98)
  long_chain : Def K mg "long_chain" (top 99)
  layers : Def K mg "layers" (top 100)
  MOST_SWITCHES : ∃ t, mg "MOST_SWITCHES" = some (.int 5 t)
  MOST_STATES : ∃ t, mg "MOST_STATES" = some (.int 32 t)
  MOST_CHAINS : ∃ t, mg "MOST_CHAINS" = some (.int 33 t)
  b_isinstance : mg "isinstance" = none
  b_int : mg "int" = none
  b_bool : mg "bool" = none
  b_tuple : mg "tuple" = none
  b_list : mg "list" = none
  b_str : mg "str" = none
  b_range : mg "range" = none
  b_len : mg "len" = none
  b_all : mg "all" = none
  b_any : mg "any" = none
  b_zip : mg "zip" = none
  badNum : PCls prog K mg "BadNumber" .part
  badText : PCls prog K mg "BadText" .index
  o_BadKind : OCls K mg "BadKind"
  o_BadStates : OCls K mg "BadStates"
  o_BadEdit : OCls K mg "BadEdit"
  o_NothingDone : OCls K mg "NothingDone"
  o_NothingUndone : OCls K mg "NothingUndone"
  o_NoPlanbook : OCls K mg "NoPlanbook"
  kinds : mg "FULL_KINDS" = some (.ref (He.ga K "FULL_KINDS")) ∧ ∀ H, SqT K H (He.ga K "FULL_KINDS") [.str "both", .str "helps", .str "hinders"]
section
variable {P : Program} {w : World} {K : PySem.W.Frag} {mg : Str → Option Value} {base : Heap}
def spD (R : List V → DueE → Prop) (G : List V → Prop) (K : PySem.W.Frag) : Sp := fun vs H Q E => (∃ d, R vs d ∧ d.out K H E) ∨ (G vs ∧ Q .non H)
theorem sc_is_number : FnScope ["thing"] ["thing"] (defScope (top 2)) := ⟨rfl, rfl, rfl, by decide +kernel, rfl, by decide +kernel, by decide +kernel⟩
theorem ok_is_number (T : TxP P K mg) : Fnc P w K mg base CX0 1 "is_number" ["thing"] spNumO := by
  refine fnc0 T.is_number sc_is_number (fun vs H Q E h => ?_) (fun _ _ _ _ _ _ us hl => match us, hl with | [_], _ => rfl) (fun cdv A outer s H vs Q E hr h => ?_)
  · obtain ⟨v, rfl, _⟩ := h
    rfl
  · obtain ⟨v, rfl, h⟩ := h
    refine ⟨_, pss_one (ps_ret (pe_and (pe_callB call_isi (by rfl) T.b_isinstance (by decide +kernel) (pa_cons (pv 0) (pa_cons (pe_tyN (n := "int") T.b_int (by rfl) (by decide +kernel)) pa_nil))) (pe_one (pe_not (pe_callB call_isi (by rfl) T.b_isinstance (by decide +kernel) (pa_cons (pv 0) (pa_cons (pe_tyN (n := "bool") T.b_bool (by rfl) (by decide +kernel)) pa_nil))))))), ?_⟩
    rcases h with ⟨i, rfl, k⟩ | ⟨hv, k⟩
    · refine ⟨_, rfl, .int i, .ty "int", _, _, true, rfl, .ty _, .base (.int i), by with_unfolding_all rfl, true, rfl, iteT ?_⟩
      exact ⟨_, rfl, .int i, .ty "bool", _, _, false, rfl, .ty _, .base (.int i), by with_unfolding_all rfl, false, rfl, k⟩
    · rcases hv with rfl | ⟨x, rfl⟩
      · exact ⟨_, rfl, .non, .ty "int", _, _, false, rfl, .ty _, .base .non, by with_unfolding_all rfl, false, rfl, iteF k⟩
      · exact ⟨_, rfl, .str x, .ty "int", _, _, false, rfl, .ty _, .base (.str x), by with_unfolding_all rfl, false, rfl, iteF k⟩
theorem sc_is_between : FnScope ["thing", "low", "high"] ["thing", "low", "high"] (defScope (top 3)) := ⟨rfl, rfl, rfl, by decide +kernel, rfl, by decide +kernel, by decide +kernel⟩
theorem ok_is_between (T : TxP P K mg) : Fnc P w K mg base CX0 2 "is_between" ["thing", "low", "high"] spBtwO := by
  have GN : Fnc P w K mg base CX0 1 "is_number" ["thing"] spNumO := ok_is_number T
  refine fnc0 T.is_between sc_is_between (fun vs H Q E h => ?_) (fun _ _ _ _ _ _ us hl => match us, hl with | [_, _, _], _ => rfl) (fun cdv A outer s H vs Q E hr h => ?_)
  · obtain ⟨v, a, b, rfl, _⟩ := h
    rfl
  · obtain ⟨v, a, b, rfl, h⟩ := h
    refine ⟨_, pss_one (ps_ret (pe_and (pe_fn GN hr pass0 (pa_cons (pv 0) pa_nil)) (pe_one (pe_chain op_le op_le (pv 1) (pv 0) (pv 2))))), ?_⟩
    have h' : (∃ i : Int, v = .int i ∧ Q (.bl (decide (a ≤ i) && decide (i ≤ b))) H) ∨ ((v = .non ∨ ∃ x, v = .str x) ∧ Q (.bl false) H) := by
      rcases h with h | ⟨ho, a0, b0, k⟩
      · exact .inl h
      · rcases ho.numv with ⟨i, rfl, hi⟩ | hv
        · refine .inl ⟨i, rfl, ?_⟩
          have e : (decide (a ≤ i) && decide (i ≤ b)) = false := by
            rcases hi with hi | hi
            · rw [decide_eq_false (show ¬ a ≤ i by omega), Bool.false_and]
            · rw [decide_eq_false (show ¬ i ≤ b by omega), Bool.and_false]
          rw [e]
          exact k
        · exact .inr ⟨hv, k⟩
    rcases h' with ⟨i, rfl, k⟩ | ⟨hv, k⟩
    · refine ⟨_, rfl, _, rfl, .inl ⟨i, rfl, true, rfl, iteT ?_⟩⟩
      refine ⟨_, rfl, _, rfl, _, _, rfl, rfl, _, rfl, ?_⟩
      by_cases h1 : a ≤ i
      · rw [decide_eq_true h1, Bool.true_and] at k
        rw [decide_eq_true h1]
        exact iteT ⟨_, rfl, _, _, rfl, rfl, k⟩
      · rw [decide_eq_false h1, Bool.false_and] at k
        rw [decide_eq_false h1]
        exact iteF k
    · exact ⟨_, rfl, _, rfl, .inr ⟨hv, false, rfl, iteF k⟩⟩
/-- a number of switches that is right -/
inductive Sw : V → Prop where
  | mk (n : Int) (h0 : 1 ≤ n) (h1 : n ≤ 5) : Sw (.int n)

inductive Q_need_switches : List V → DueE → Prop where
  | c0 {v : V} (o : Odd v) : Q_need_switches [v] (.num "switches")
inductive W_need_switches : List V → Prop where
  | c0 {v : V} (h : Sw v) : W_need_switches [v]
theorem sc_need_switches : FnScope ["switches"] ["switches"] (defScope (top 57)) := ⟨rfl, rfl, rfl, by decide +kernel, rfl, by decide +kernel, by decide +kernel⟩
def R_need_switches : List V → DueE → Prop := Q_need_switches
def G_need_switches : List V → Prop := W_need_switches
theorem ok_need_switches (T : TxP P K mg) : Fnc P w K mg base (L2.CX P w) 3 "need_switches" ["switches"] (spD R_need_switches G_need_switches K) := by
  have GB := ok_is_between (P := P) (w := w) (base := base) T
  obtain ⟨t1, h_MOST_SWITCHES⟩ := T.MOST_SWITCHES
  obtain ⟨t2, h_MOST_STATES⟩ := T.MOST_STATES
  obtain ⟨t3, h_MOST_CHAINS⟩ := T.MOST_CHAINS
  refine fnc T.need_switches sc_need_switches (fun vs H Q E h => ?_) (fun _ _ _ _ _ _ us hl => match us, hl with | [_], _ => rfl) (fun cdv A outer s H vs Q E hr h => ?_)
  · rcases h with ⟨d, h, _⟩ | ⟨h, _⟩ <;> (cases h <;> rfl)
  · refine ⟨_, pss_one (ps_if (pt_not (pt_val (pe_fn GB (hr.mono (by decide)) pass0 (pa_cons (pv 0) (pa_cons pe_int (pa_cons (pe_glob (v := .int 5) (by rfl) h_MOST_SWITCHES ⟨_, rfl⟩) pa_nil)))))) (pss_one (ps_raisePC rfl T.badNum hr (takes_of rfl rfl rfl rfl) (pa_cons pe_str pa_nil))) pss_nil), ?_⟩
    rcases h with ⟨d, h, x⟩ | ⟨h, k⟩
    · cases h with
      | c0 o => exact ⟨_, rfl, ⟨_, _, _, rfl, .inr ⟨o, by decide, by decide, _, rfl, iteT ⟨_, rfl, fun d hd => x.go same_refl hd⟩⟩⟩⟩
    · cases h with
      | c0 h => cases h with
        | mk n h0 h1 => exact ⟨_, rfl, ⟨_, _, _, rfl, .inl ⟨_, rfl, by rw [decide_eq_true (show 1 ≤ n from h0), decide_eq_true (show n ≤ 5 from h1)]; exact ⟨_, rfl, iteF k⟩⟩⟩⟩
inductive Q_need_apart_number : List V → DueE → Prop where
  | c0 {v u : V} (o : Odd v) : Q_need_apart_number [v, u] (.num "switches")
  | c1 {v u : V} (h : Sw v) (o : Odd u) : Q_need_apart_number [v, u] (.num "number")
inductive W_need_apart_number : List V → Prop where
  | c0 {v u : V} (h : Sw v) (h2 : Sw u) : W_need_apart_number [v, u]
theorem sc_need_apart_number : FnScope ["switches", "number"] ["switches", "number"] (defScope (top 58)) := ⟨rfl, rfl, rfl, by decide +kernel, rfl, by decide +kernel, by decide +kernel⟩
def R_need_apart_number : List V → DueE → Prop := Q_need_apart_number
def G_need_apart_number : List V → Prop := W_need_apart_number
theorem ok_need_apart_number (T : TxP P K mg) : Fnc P w K mg base (L2.CX P w) 4 "need_apart_number" ["switches", "number"] (spD R_need_apart_number G_need_apart_number K) := by
  have GB := ok_is_between (P := P) (w := w) (base := base) T
  have GS := ok_need_switches (P := P) (w := w) (base := base) T
  obtain ⟨t1, h_MOST_SWITCHES⟩ := T.MOST_SWITCHES
  obtain ⟨t2, h_MOST_STATES⟩ := T.MOST_STATES
  obtain ⟨t3, h_MOST_CHAINS⟩ := T.MOST_CHAINS
  refine fnc T.need_apart_number sc_need_apart_number (fun vs H Q E h => ?_) (fun _ _ _ _ _ _ us hl => match us, hl with | [_, _], _ => rfl) (fun cdv A outer s H vs Q E hr h => ?_)
  · rcases h with ⟨d, h, _⟩ | ⟨h, _⟩ <;> (cases h <;> rfl)
  · refine ⟨_, pss_cons (ps_expr (pe_fn GS (hr.mono (by decide)) (passes_call (takes_of rfl rfl rfl rfl) (fun _ _ _ _ h => h)) (pa_cons (pv 0) pa_nil))) (pss_one (ps_if (pt_not (pt_val (pe_fn GB (hr.mono (by decide)) pass0 (pa_cons (pv 1) (pa_cons pe_int (pa_cons (pe_glob (v := .int 5) (by rfl) h_MOST_SWITCHES ⟨_, rfl⟩) pa_nil)))))) (pss_one (ps_raisePC rfl T.badNum hr (takes_of rfl rfl rfl rfl) (pa_cons pe_str pa_nil))) pss_nil)), ?_⟩
    rcases h with ⟨d, h, x⟩ | ⟨h, k⟩
    · cases h with
      | c0 o => exact ⟨_, rfl, .inl ⟨_, .c0 o, x⟩⟩
      | c1 h o => exact ⟨_, rfl, .inr ⟨.c0 h, _, rfl, ⟨_, _, _, rfl, .inr ⟨o, by decide, by decide, _, rfl, iteT ⟨_, rfl, fun d hd => x.go same_refl hd⟩⟩⟩⟩⟩
    · cases h with
      | c0 h h2 => cases h2 with
        | mk n h0 h1 => exact ⟨_, rfl, .inr ⟨.c0 h, _, rfl, ⟨_, _, _, rfl, .inl ⟨_, rfl, by rw [decide_eq_true (show 1 ≤ n from h0), decide_eq_true (show n ≤ 5 from h1)]; exact ⟨_, rfl, iteF k⟩⟩⟩⟩⟩
inductive Q_need_many_states : List V → DueE → Prop where
  | c0 {v : V} (o : Odd v) : Q_need_many_states [v] (.num "many")
inductive W_need_many_states : List V → Prop where
theorem sc_need_many_states : FnScope ["many"] ["many"] (defScope (top 63)) := ⟨rfl, rfl, rfl, by decide +kernel, rfl, by decide +kernel, by decide +kernel⟩
def R_need_many_states : List V → DueE → Prop := Q_need_many_states
def G_need_many_states : List V → Prop := W_need_many_states
theorem ok_need_many_states (T : TxP P K mg) : Fnc P w K mg base (L2.CX P w) 3 "need_many_states" ["many"] (spD R_need_many_states G_need_many_states K) := by
  have GB := ok_is_between (P := P) (w := w) (base := base) T
  obtain ⟨t1, h_MOST_SWITCHES⟩ := T.MOST_SWITCHES
  obtain ⟨t2, h_MOST_STATES⟩ := T.MOST_STATES
  obtain ⟨t3, h_MOST_CHAINS⟩ := T.MOST_CHAINS
  refine fnc T.need_many_states sc_need_many_states (fun vs H Q E h => ?_) (fun _ _ _ _ _ _ us hl => match us, hl with | [_], _ => rfl) (fun cdv A outer s H vs Q E hr h => ?_)
  · rcases h with ⟨d, h, _⟩ | ⟨h, _⟩ <;> (cases h <;> rfl)
  · refine ⟨_, pss_one (ps_if (pt_not (pt_val (pe_fn GB (hr.mono (by decide)) pass0 (pa_cons (pv 0) (pa_cons pe_int (pa_cons (pe_op op_add (pe_glob (v := .int 32) (by rfl) h_MOST_STATES ⟨_, rfl⟩) pe_int) pa_nil)))))) (pss_one (ps_raisePC rfl T.badNum hr (takes_of rfl rfl rfl rfl) (pa_cons pe_str pa_nil))) pss_nil), ?_⟩
    rcases h with ⟨d, h, x⟩ | ⟨h, k⟩
    · cases h with
      | c0 o => exact ⟨_, rfl, _, _, rfl, rfl, ⟨_, _, _, rfl, .inr ⟨o, by decide, by decide, _, rfl, iteT ⟨_, rfl, fun d hd => x.go same_refl hd⟩⟩⟩⟩
    · cases h
inductive Q_need_full_kind : List V → DueE → Prop where
  | c0 {v : V} (o : Odd v) (n1 : v ≠ .str "both") (n2 : v ≠ .str "helps") (n3 : v ≠ .str "hinders") : Q_need_full_kind [v] .kind
inductive W_need_full_kind : List V → Prop where
  | c0 {x : Str} (h : x = "both" ∨ x = "helps" ∨ x = "hinders") : W_need_full_kind [.str x]
theorem inKinds (x : Str) : inV (.str x) [.str "both", .str "helps", .str "hinders"] = (decide (x = "both") || (decide (x = "helps") || decide (x = "hinders"))) := by
  have e : ∀ y : Str, eqV (.str y) (.str x) = decide (x = y) := fun y => by
    by_cases h : x = y
    · subst h; simp [eqV]
    · have h' : ¬ y = x := fun e => h e.symm
      simp [eqV, h, h']
  show (eqV _ _ || (eqV _ _ || (eqV _ _ || false))) = _
  rw [e, e, e, Bool.or_false]
theorem sc_need_full_kind : FnScope ["kind"] ["kind"] (defScope (top 70)) := ⟨rfl, rfl, rfl, by decide +kernel, rfl, by decide +kernel, by decide +kernel⟩
def R_need_full_kind : List V → DueE → Prop := Q_need_full_kind
def G_need_full_kind : List V → Prop := W_need_full_kind
theorem ok_need_full_kind (T : TxP P K mg) : Fnc P w K mg base (L2.CX P w) 1 "need_full_kind" ["kind"] (spD R_need_full_kind G_need_full_kind K) := by
  obtain ⟨t1, h_MOST_SWITCHES⟩ := T.MOST_SWITCHES
  obtain ⟨t2, h_MOST_STATES⟩ := T.MOST_STATES
  obtain ⟨t3, h_MOST_CHAINS⟩ := T.MOST_CHAINS
  refine fnc T.need_full_kind sc_need_full_kind (fun vs H Q E h => ?_) (fun _ _ _ _ _ _ us hl => match us, hl with | [_], _ => rfl) (fun cdv A outer s H vs Q E hr h => ?_)
  · rcases h with ⟨d, h, _⟩ | ⟨h, _⟩ <;> (cases h <;> rfl)
  · refine ⟨_, pss_one (ps_if (PW.pt (pw_or (pt_not (pt_val (pe_callB call_isi (by rfl) T.b_isinstance (by decide +kernel) (pa_cons (pv 0) (pa_cons (pe_tyN (n := "str") T.b_str (by rfl) (by decide +kernel)) pa_nil))))) (pw_or1 (pt_cmpR op_notIn_seq (pv 0) (pe_glob (v := .ref (He.ga K "FULL_KINDS")) (by rfl) T.kinds.1 rfl) (by with_unfolding_all rfl))))) (pss_one (ps_raiseO rfl T.o_BadKind (takes_of rfl rfl rfl rfl))) pss_nil), ?_⟩
    rcases h with ⟨d, h, x⟩ | ⟨h, k⟩
    · cases h with
      | c0 o n1 n2 n3 => cases o with
        | non => exact ⟨_, rfl, .non, .ty "str", _, _, false, rfl, .ty _, .base .non, by with_unfolding_all rfl, _, rfl, iteT (iteT (x H same_refl))⟩
        | int i h => exact ⟨_, rfl, .int i, .ty "str", _, _, false, rfl, .ty _, .base (.int i), by with_unfolding_all rfl, _, rfl, iteT (iteT (x H same_refl))⟩
        | str y =>
          refine ⟨_, rfl, .str y, .ty "str", _, _, true, rfl, .ty _, .base (.str y), by with_unfolding_all rfl, _, rfl, iteF ?_⟩
          refine ⟨_, rfl, _, _, rfl, .inr (T.kinds.2 H), rfl, rfl, _, rfl, ?_⟩
          rw [inKinds, decide_eq_false (fun e => n1 (by rw [e])), decide_eq_false (fun e => n2 (by rw [e])), decide_eq_false (fun e => n3 (by rw [e]))]
          exact iteT (x H same_refl)
    · cases h with
      | c0 h =>
        refine ⟨_, rfl, _, .ty "str", _, _, true, rfl, .ty _, .base (.str _), by with_unfolding_all rfl, _, rfl, iteF ?_⟩
        refine ⟨_, rfl, _, _, rfl, .inr (T.kinds.2 H), rfl, rfl, _, rfl, ?_⟩
        rw [inKinds]
        rcases h with rfl | rfl | rfl <;> exact iteF k
structure OddK (v : V) : Prop where
  o : Odd v
  n1 : v ≠ .str "both"
  n2 : v ≠ .str "helps"
  n3 : v ≠ .str "hinders"
inductive Kd : V → Prop where
  | mk (x : Str) (h : x = "both" ∨ x = "helps" ∨ x = "hinders") : Kd (.str x)
inductive Q_need_full : List V → DueE → Prop where
  | c0 {v u : V} (o : Odd v) : Q_need_full [v, u] (.num "switches")
  | c1 {v u : V} (h : Sw v) (o : OddK u) : Q_need_full [v, u] .kind
inductive W_need_full : List V → Prop where
  | c0 {v u : V} (h : Sw v) (h2 : Kd u) : W_need_full [v, u]
theorem sc_need_full : FnScope ["switches", "kind"] ["switches", "kind"] (defScope (top 71)) := ⟨rfl, rfl, rfl, by decide +kernel, rfl, by decide +kernel, by decide +kernel⟩
def R_need_full : List V → DueE → Prop := Q_need_full
def G_need_full : List V → Prop := W_need_full
theorem ok_need_full (T : TxP P K mg) : Fnc P w K mg base (L2.CX P w) 4 "need_full" ["switches", "kind"] (spD R_need_full G_need_full K) := by
  have GS := ok_need_switches (P := P) (w := w) (base := base) T
  have GK := ok_need_full_kind (P := P) (w := w) (base := base) T
  obtain ⟨t1, h_MOST_SWITCHES⟩ := T.MOST_SWITCHES
  obtain ⟨t2, h_MOST_STATES⟩ := T.MOST_STATES
  obtain ⟨t3, h_MOST_CHAINS⟩ := T.MOST_CHAINS
  refine fnc T.need_full sc_need_full (fun vs H Q E h => ?_) (fun _ _ _ _ _ _ us hl => match us, hl with | [_, _], _ => rfl) (fun cdv A outer s H vs Q E hr h => ?_)
  · rcases h with ⟨d, h, _⟩ | ⟨h, _⟩ <;> (cases h <;> rfl)
  · refine ⟨_, pss_cons (ps_expr (pe_fn GS (hr.mono (by decide)) (passes_call (takes_of rfl rfl rfl rfl) (fun _ _ _ _ h => h)) (pa_cons (pv 0) pa_nil))) (pss_one (ps_expr (pe_fn GK (hr.mono (by decide)) (passes_call (takes_of rfl rfl rfl rfl) (fun _ _ _ _ h => h)) (pa_cons (pv 1) pa_nil)))), ?_⟩
    rcases h with ⟨d, h, x⟩ | ⟨h, k⟩
    · cases h with
      | c0 o => exact ⟨_, rfl, .inl ⟨_, .c0 o, x⟩⟩
      | c1 h o => exact ⟨_, rfl, .inr ⟨.c0 h, _, rfl, .inl ⟨_, .c0 o.o o.n1 o.n2 o.n3, x⟩⟩⟩
    · cases h with
      | c0 h h2 => cases h2 with
        | mk y hy => exact ⟨_, rfl, .inr ⟨.c0 h, _, rfl, .inr ⟨.c0 hy, k⟩⟩⟩
inductive Q_most_apart : List V → DueE → Prop where
  | c0 {v u0 : V} (o : Odd v) : Q_most_apart [v, u0] (.num "switches")
  | c1 {v u0 : V} (h : Sw v) (o : Odd u0) : Q_most_apart [v, u0] (.num "number")
inductive W_most_apart : List V → Prop where
theorem sc_most_apart : FnScope ["switches", "number"] ["switches", "number"] (defScope (top 62)) := ⟨rfl, rfl, rfl, by decide +kernel, rfl, by decide +kernel, by decide +kernel⟩
def R_most_apart : List V → DueE → Prop := Q_most_apart
def G_most_apart : List V → Prop := W_most_apart
theorem ok_most_apart (T : TxP P K mg) : Fnc P w K mg base (L2.CX P w) 5 "most_apart" ["switches", "number"] (spD R_most_apart G_most_apart K) := by
  have GF := ok_need_apart_number (P := P) (w := w) (base := base) T
  obtain ⟨t1, h_MOST_SWITCHES⟩ := T.MOST_SWITCHES
  obtain ⟨t2, h_MOST_STATES⟩ := T.MOST_STATES
  obtain ⟨t3, h_MOST_CHAINS⟩ := T.MOST_CHAINS
  refine fnc T.most_apart sc_most_apart (fun vs H Q E h => ?_) (fun _ _ _ _ _ _ us hl => match us, hl with | [_, _], _ => rfl) (fun cdv A outer s H vs Q E hr h => ?_)
  · rcases h with ⟨d, h, _⟩ | ⟨h, _⟩ <;> (cases h <;> rfl)
  · refine ⟨_, pss_cons (ps_expr (pe_fn GF (hr.mono (by decide)) (passes_call (takes_of rfl rfl rfl rfl) (fun _ _ _ _ h => h)) (pa_cons (pv 0) (pa_cons (pv 1) pa_nil)))) pss_any, ?_⟩
    rcases h with ⟨d, h, x⟩ | ⟨h, k⟩
    · cases h with
      | c0 o => exact ⟨_, rfl, _, rfl, .inl ⟨_, .c0 o, x⟩⟩
      | c1 h o => exact ⟨_, rfl, _, rfl, .inl ⟨_, .c1 h o, x⟩⟩
    · cases h
inductive Q_packing_bound : List V → DueE → Prop where
  | c0 {v u0 : V} (o : Odd v) : Q_packing_bound [v, u0] (.num "switches")
  | c1 {v u0 : V} (h : Sw v) (o : Odd u0) : Q_packing_bound [v, u0] (.num "number")
inductive W_packing_bound : List V → Prop where
theorem sc_packing_bound : FnScope ["switches", "number"] ["switches", "number"] (defScope (top 69)) := ⟨rfl, rfl, rfl, by decide +kernel, rfl, by decide +kernel, by decide +kernel⟩
def R_packing_bound : List V → DueE → Prop := Q_packing_bound
def G_packing_bound : List V → Prop := W_packing_bound
theorem ok_packing_bound (T : TxP P K mg) : Fnc P w K mg base (L2.CX P w) 5 "packing_bound" ["switches", "number"] (spD R_packing_bound G_packing_bound K) := by
  have GF := ok_need_apart_number (P := P) (w := w) (base := base) T
  obtain ⟨t1, h_MOST_SWITCHES⟩ := T.MOST_SWITCHES
  obtain ⟨t2, h_MOST_STATES⟩ := T.MOST_STATES
  obtain ⟨t3, h_MOST_CHAINS⟩ := T.MOST_CHAINS
  refine fnc T.packing_bound sc_packing_bound (fun vs H Q E h => ?_) (fun _ _ _ _ _ _ us hl => match us, hl with | [_, _], _ => rfl) (fun cdv A outer s H vs Q E hr h => ?_)
  · rcases h with ⟨d, h, _⟩ | ⟨h, _⟩ <;> (cases h <;> rfl)
  · refine ⟨_, pss_cons (ps_expr (pe_fn GF (hr.mono (by decide)) (passes_call (takes_of rfl rfl rfl rfl) (fun _ _ _ _ h => h)) (pa_cons (pv 0) (pa_cons (pv 1) pa_nil)))) pss_any, ?_⟩
    rcases h with ⟨d, h, x⟩ | ⟨h, k⟩
    · cases h with
      | c0 o => exact ⟨_, rfl, _, rfl, .inl ⟨_, .c0 o, x⟩⟩
      | c1 h o => exact ⟨_, rfl, _, rfl, .inl ⟨_, .c1 h o, x⟩⟩
    · cases h
inductive Q_is_apart_lot : List V → DueE → Prop where
  | c0 {v u0 u1 : V} (o : Odd v) : Q_is_apart_lot [v, u0, u1] (.num "switches")
  | c1 {v u0 u1 : V} (h : Sw v) (o : Odd u0) : Q_is_apart_lot [v, u0, u1] (.num "number")
inductive W_is_apart_lot : List V → Prop where
theorem sc_is_apart_lot : FnScope ["switches", "number", "thing"] ["switches", "number", "thing"] (defScope (top 61)) := ⟨rfl, rfl, rfl, by decide +kernel, rfl, by decide +kernel, by decide +kernel⟩
def R_is_apart_lot : List V → DueE → Prop := Q_is_apart_lot
def G_is_apart_lot : List V → Prop := W_is_apart_lot
theorem ok_is_apart_lot (T : TxP P K mg) : Fnc P w K mg base (L2.CX P w) 5 "is_apart_lot" ["switches", "number", "thing"] (spD R_is_apart_lot G_is_apart_lot K) := by
  have GF := ok_need_apart_number (P := P) (w := w) (base := base) T
  obtain ⟨t1, h_MOST_SWITCHES⟩ := T.MOST_SWITCHES
  obtain ⟨t2, h_MOST_STATES⟩ := T.MOST_STATES
  obtain ⟨t3, h_MOST_CHAINS⟩ := T.MOST_CHAINS
  refine fnc T.is_apart_lot sc_is_apart_lot (fun vs H Q E h => ?_) (fun _ _ _ _ _ _ us hl => match us, hl with | [_, _, _], _ => rfl) (fun cdv A outer s H vs Q E hr h => ?_)
  · rcases h with ⟨d, h, _⟩ | ⟨h, _⟩ <;> (cases h <;> rfl)
  · refine ⟨_, pss_cons (ps_expr (pe_fn GF (hr.mono (by decide)) (passes_call (takes_of rfl rfl rfl rfl) (fun _ _ _ _ h => h)) (pa_cons (pv 0) (pa_cons (pv 1) pa_nil)))) pss_any, ?_⟩
    rcases h with ⟨d, h, x⟩ | ⟨h, k⟩
    · cases h with
      | c0 o => exact ⟨_, rfl, _, rfl, .inl ⟨_, .c0 o, x⟩⟩
      | c1 h o => exact ⟨_, rfl, _, rfl, .inl ⟨_, .c1 h o, x⟩⟩
    · cases h
inductive Q_apart_paper : List V → DueE → Prop where
  | c0 {v u0 u1 : V} (o : Odd v) : Q_apart_paper [v, u0, u1] (.num "switches")
  | c1 {v u0 u1 : V} (h : Sw v) (o : Odd u0) : Q_apart_paper [v, u0, u1] (.num "number")
  | c2 {v u0 u1 : V} (h : Sw v) (h2 : Sw u0) (o : Odd u1) : Q_apart_paper [v, u0, u1] (.num "many")
inductive W_apart_paper : List V → Prop where
theorem sc_apart_paper : FnScope ["switches", "number", "many"] ["switches", "number", "many"] (defScope (top 66)) := ⟨rfl, rfl, rfl, by decide +kernel, rfl, by decide +kernel, by decide +kernel⟩
def R_apart_paper : List V → DueE → Prop := Q_apart_paper
def G_apart_paper : List V → Prop := W_apart_paper
theorem ok_apart_paper (T : TxP P K mg) : Fnc P w K mg base (L2.CX P w) 5 "apart_paper" ["switches", "number", "many"] (spD R_apart_paper G_apart_paper K) := by
  have GF := ok_need_apart_number (P := P) (w := w) (base := base) T
  have GM := ok_need_many_states (P := P) (w := w) (base := base) T
  obtain ⟨t1, h_MOST_SWITCHES⟩ := T.MOST_SWITCHES
  obtain ⟨t2, h_MOST_STATES⟩ := T.MOST_STATES
  obtain ⟨t3, h_MOST_CHAINS⟩ := T.MOST_CHAINS
  refine fnc T.apart_paper sc_apart_paper (fun vs H Q E h => ?_) (fun _ _ _ _ _ _ us hl => match us, hl with | [_, _, _], _ => rfl) (fun cdv A outer s H vs Q E hr h => ?_)
  · rcases h with ⟨d, h, _⟩ | ⟨h, _⟩ <;> (cases h <;> rfl)
  · refine ⟨_, pss_cons (ps_expr (pe_fn GF (hr.mono (by decide)) (passes_call (takes_of rfl rfl rfl rfl) (fun _ _ _ _ h => h)) (pa_cons (pv 0) (pa_cons (pv 1) pa_nil)))) (pss_cons (ps_expr (pe_fn GM (hr.mono (by decide)) (passes_call (takes_of rfl rfl rfl rfl) (fun _ _ _ _ h => h)) (pa_cons (pv 2) pa_nil))) pss_any), ?_⟩
    rcases h with ⟨d, h, x⟩ | ⟨h, k⟩
    · cases h with
      | c0 o => exact ⟨_, rfl, _, rfl, .inl ⟨_, .c0 o, x⟩⟩
      | c1 h o => exact ⟨_, rfl, _, rfl, .inl ⟨_, .c1 h o, x⟩⟩
      | c2 h h2 o => exact ⟨_, rfl, _, rfl, .inr ⟨.c0 h h2, _, rfl, .inl ⟨_, .c0 o, x⟩⟩⟩
    · cases h
inductive Q_is_apart_paper : List V → DueE → Prop where
  | c0 {v u0 u1 u2 : V} (o : Odd v) : Q_is_apart_paper [v, u0, u1, u2] (.num "switches")
  | c1 {v u0 u1 u2 : V} (h : Sw v) (o : Odd u0) : Q_is_apart_paper [v, u0, u1, u2] (.num "number")
  | c2 {v u0 u1 u2 : V} (h : Sw v) (h2 : Sw u0) (o : Odd u1) : Q_is_apart_paper [v, u0, u1, u2] (.num "many")
inductive W_is_apart_paper : List V → Prop where
theorem sc_is_apart_paper : FnScope ["switches", "number", "many", "thing"] ["switches", "number", "many", "thing"] (defScope (top 67)) := ⟨rfl, rfl, rfl, by decide +kernel, rfl, by decide +kernel, by decide +kernel⟩
def R_is_apart_paper : List V → DueE → Prop := Q_is_apart_paper
def G_is_apart_paper : List V → Prop := W_is_apart_paper
theorem ok_is_apart_paper (T : TxP P K mg) : Fnc P w K mg base (L2.CX P w) 5 "is_apart_paper" ["switches", "number", "many", "thing"] (spD R_is_apart_paper G_is_apart_paper K) := by
  have GF := ok_need_apart_number (P := P) (w := w) (base := base) T
  have GM := ok_need_many_states (P := P) (w := w) (base := base) T
  obtain ⟨t1, h_MOST_SWITCHES⟩ := T.MOST_SWITCHES
  obtain ⟨t2, h_MOST_STATES⟩ := T.MOST_STATES
  obtain ⟨t3, h_MOST_CHAINS⟩ := T.MOST_CHAINS
  refine fnc T.is_apart_paper sc_is_apart_paper (fun vs H Q E h => ?_) (fun _ _ _ _ _ _ us hl => match us, hl with | [_, _, _, _], _ => rfl) (fun cdv A outer s H vs Q E hr h => ?_)
  · rcases h with ⟨d, h, _⟩ | ⟨h, _⟩ <;> (cases h <;> rfl)
  · refine ⟨_, pss_cons (ps_expr (pe_fn GF (hr.mono (by decide)) (passes_call (takes_of rfl rfl rfl rfl) (fun _ _ _ _ h => h)) (pa_cons (pv 0) (pa_cons (pv 1) pa_nil)))) (pss_cons (ps_expr (pe_fn GM (hr.mono (by decide)) (passes_call (takes_of rfl rfl rfl rfl) (fun _ _ _ _ h => h)) (pa_cons (pv 2) pa_nil))) pss_any), ?_⟩
    rcases h with ⟨d, h, x⟩ | ⟨h, k⟩
    · cases h with
      | c0 o => exact ⟨_, rfl, _, rfl, .inl ⟨_, .c0 o, x⟩⟩
      | c1 h o => exact ⟨_, rfl, _, rfl, .inl ⟨_, .c1 h o, x⟩⟩
      | c2 h h2 o => exact ⟨_, rfl, _, rfl, .inr ⟨.c0 h h2, _, rfl, .inl ⟨_, .c0 o, x⟩⟩⟩
    · cases h
inductive Q_full_plan : List V → DueE → Prop where
  | c0 {v u0 : V} (o : Odd v) : Q_full_plan [v, u0] (.num "switches")
  | c1 {v u0 : V} (h : Sw v) (o : OddK u0) : Q_full_plan [v, u0] .kind
inductive W_full_plan : List V → Prop where
theorem sc_full_plan : FnScope ["switches", "kind", "signs", "pairs"] ["switches", "kind"] (defScope (top 72)) := ⟨rfl, rfl, rfl, by decide +kernel, rfl, by decide +kernel, by decide +kernel⟩
def R_full_plan : List V → DueE → Prop := Q_full_plan
def G_full_plan : List V → Prop := W_full_plan
theorem ok_full_plan (T : TxP P K mg) : Fnc P w K mg base (L2.CX P w) 5 "full_plan" ["switches", "kind"] (spD R_full_plan G_full_plan K) := by
  have GF := ok_need_full (P := P) (w := w) (base := base) T
  obtain ⟨t1, h_MOST_SWITCHES⟩ := T.MOST_SWITCHES
  obtain ⟨t2, h_MOST_STATES⟩ := T.MOST_STATES
  obtain ⟨t3, h_MOST_CHAINS⟩ := T.MOST_CHAINS
  refine fnc T.full_plan sc_full_plan (fun vs H Q E h => ?_) (fun _ _ _ _ _ _ us hl => match us, hl with | [_, _], _ => rfl) (fun cdv A outer s H vs Q E hr h => ?_)
  · rcases h with ⟨d, h, _⟩ | ⟨h, _⟩ <;> (cases h <;> rfl)
  · refine ⟨_, pss_cons (ps_expr (pe_fn GF (hr.mono (by decide)) (passes_call (takes_of rfl rfl rfl rfl) (fun _ _ _ _ h => h)) (pa_cons (pv 0) (pa_cons (pv 1) pa_nil)))) pss_any, ?_⟩
    rcases h with ⟨d, h, x⟩ | ⟨h, k⟩
    · cases h with
      | c0 o => exact ⟨_, rfl, _, rfl, .inl ⟨_, .c0 o, x⟩⟩
      | c1 h o => exact ⟨_, rfl, _, rfl, .inl ⟨_, .c1 h o, x⟩⟩
    · cases h
inductive Q_most_full : List V → DueE → Prop where
  | c0 {v u0 : V} (o : Odd v) : Q_most_full [v, u0] (.num "switches")
  | c1 {v u0 : V} (h : Sw v) (o : OddK u0) : Q_most_full [v, u0] .kind
inductive W_most_full : List V → Prop where
theorem sc_most_full : FnScope ["switches", "kind"] ["switches", "kind"] (defScope (top 75)) := ⟨rfl, rfl, rfl, by decide +kernel, rfl, by decide +kernel, by decide +kernel⟩
def R_most_full : List V → DueE → Prop := Q_most_full
def G_most_full : List V → Prop := W_most_full
theorem ok_most_full (T : TxP P K mg) : Fnc P w K mg base (L2.CX P w) 5 "most_full" ["switches", "kind"] (spD R_most_full G_most_full K) := by
  have GF := ok_need_full (P := P) (w := w) (base := base) T
  obtain ⟨t1, h_MOST_SWITCHES⟩ := T.MOST_SWITCHES
  obtain ⟨t2, h_MOST_STATES⟩ := T.MOST_STATES
  obtain ⟨t3, h_MOST_CHAINS⟩ := T.MOST_CHAINS
  refine fnc T.most_full sc_most_full (fun vs H Q E h => ?_) (fun _ _ _ _ _ _ us hl => match us, hl with | [_, _], _ => rfl) (fun cdv A outer s H vs Q E hr h => ?_)
  · rcases h with ⟨d, h, _⟩ | ⟨h, _⟩ <;> (cases h <;> rfl)
  · refine ⟨_, pss_cons (ps_expr (pe_fn GF (hr.mono (by decide)) (passes_call (takes_of rfl rfl rfl rfl) (fun _ _ _ _ h => h)) (pa_cons (pv 0) (pa_cons (pv 1) pa_nil)))) pss_any, ?_⟩
    rcases h with ⟨d, h, x⟩ | ⟨h, k⟩
    · cases h with
      | c0 o => exact ⟨_, rfl, _, rfl, .inl ⟨_, .c0 o, x⟩⟩
      | c1 h o => exact ⟨_, rfl, _, rfl, .inl ⟨_, .c1 h o, x⟩⟩
    · cases h
inductive Q_full_paper : List V → DueE → Prop where
  | c0 {v u0 u1 : V} (o : Odd v) : Q_full_paper [v, u0, u1] (.num "switches")
  | c1 {v u0 u1 : V} (h : Sw v) (o : OddK u0) : Q_full_paper [v, u0, u1] .kind
  | c2 {v u0 u1 : V} (h : Sw v) (h2 : Kd u0) (o : Odd u1) : Q_full_paper [v, u0, u1] (.num "many")
inductive W_full_paper : List V → Prop where
theorem sc_full_paper : FnScope ["switches", "kind", "many"] ["switches", "kind", "many"] (defScope (top 76)) := ⟨rfl, rfl, rfl, by decide +kernel, rfl, by decide +kernel, by decide +kernel⟩
def R_full_paper : List V → DueE → Prop := Q_full_paper
def G_full_paper : List V → Prop := W_full_paper
theorem ok_full_paper (T : TxP P K mg) : Fnc P w K mg base (L2.CX P w) 5 "full_paper" ["switches", "kind", "many"] (spD R_full_paper G_full_paper K) := by
  have GF := ok_need_full (P := P) (w := w) (base := base) T
  have GM := ok_need_many_states (P := P) (w := w) (base := base) T
  obtain ⟨t1, h_MOST_SWITCHES⟩ := T.MOST_SWITCHES
  obtain ⟨t2, h_MOST_STATES⟩ := T.MOST_STATES
  obtain ⟨t3, h_MOST_CHAINS⟩ := T.MOST_CHAINS
  refine fnc T.full_paper sc_full_paper (fun vs H Q E h => ?_) (fun _ _ _ _ _ _ us hl => match us, hl with | [_, _, _], _ => rfl) (fun cdv A outer s H vs Q E hr h => ?_)
  · rcases h with ⟨d, h, _⟩ | ⟨h, _⟩ <;> (cases h <;> rfl)
  · refine ⟨_, pss_cons (ps_expr (pe_fn GF (hr.mono (by decide)) (passes_call (takes_of rfl rfl rfl rfl) (fun _ _ _ _ h => h)) (pa_cons (pv 0) (pa_cons (pv 1) pa_nil)))) (pss_cons (ps_expr (pe_fn GM (hr.mono (by decide)) (passes_call (takes_of rfl rfl rfl rfl) (fun _ _ _ _ h => h)) (pa_cons (pv 2) pa_nil))) pss_any), ?_⟩
    rcases h with ⟨d, h, x⟩ | ⟨h, k⟩
    · cases h with
      | c0 o => exact ⟨_, rfl, _, rfl, .inl ⟨_, .c0 o, x⟩⟩
      | c1 h o => exact ⟨_, rfl, _, rfl, .inl ⟨_, .c1 h o, x⟩⟩
      | c2 h h2 o => exact ⟨_, rfl, _, rfl, .inr ⟨.c0 h h2, _, rfl, .inl ⟨_, .c0 o, x⟩⟩⟩
    · cases h
inductive Q_is_full_paper : List V → DueE → Prop where
  | c0 {v u0 u1 u2 : V} (o : Odd v) : Q_is_full_paper [v, u0, u1, u2] (.num "switches")
  | c1 {v u0 u1 u2 : V} (h : Sw v) (o : OddK u0) : Q_is_full_paper [v, u0, u1, u2] .kind
  | c2 {v u0 u1 u2 : V} (h : Sw v) (h2 : Kd u0) (o : Odd u1) : Q_is_full_paper [v, u0, u1, u2] (.num "many")
inductive W_is_full_paper : List V → Prop where
theorem sc_is_full_paper : FnScope ["switches", "kind", "many", "thing"] ["switches", "kind", "many", "thing"] (defScope (top 77)) := ⟨rfl, rfl, rfl, by decide +kernel, rfl, by decide +kernel, by decide +kernel⟩
def R_is_full_paper : List V → DueE → Prop := Q_is_full_paper
def G_is_full_paper : List V → Prop := W_is_full_paper
theorem ok_is_full_paper (T : TxP P K mg) : Fnc P w K mg base (L2.CX P w) 5 "is_full_paper" ["switches", "kind", "many", "thing"] (spD R_is_full_paper G_is_full_paper K) := by
  have GF := ok_need_full (P := P) (w := w) (base := base) T
  have GM := ok_need_many_states (P := P) (w := w) (base := base) T
  obtain ⟨t1, h_MOST_SWITCHES⟩ := T.MOST_SWITCHES
  obtain ⟨t2, h_MOST_STATES⟩ := T.MOST_STATES
  obtain ⟨t3, h_MOST_CHAINS⟩ := T.MOST_CHAINS
  refine fnc T.is_full_paper sc_is_full_paper (fun vs H Q E h => ?_) (fun _ _ _ _ _ _ us hl => match us, hl with | [_, _, _, _], _ => rfl) (fun cdv A outer s H vs Q E hr h => ?_)
  · rcases h with ⟨d, h, _⟩ | ⟨h, _⟩ <;> (cases h <;> rfl)
  · refine ⟨_, pss_cons (ps_expr (pe_fn GF (hr.mono (by decide)) (passes_call (takes_of rfl rfl rfl rfl) (fun _ _ _ _ h => h)) (pa_cons (pv 0) (pa_cons (pv 1) pa_nil)))) (pss_cons (ps_expr (pe_fn GM (hr.mono (by decide)) (passes_call (takes_of rfl rfl rfl rfl) (fun _ _ _ _ h => h)) (pa_cons (pv 2) pa_nil))) pss_any), ?_⟩
    rcases h with ⟨d, h, x⟩ | ⟨h, k⟩
    · cases h with
      | c0 o => exact ⟨_, rfl, _, rfl, .inl ⟨_, .c0 o, x⟩⟩
      | c1 h o => exact ⟨_, rfl, _, rfl, .inl ⟨_, .c1 h o, x⟩⟩
      | c2 h h2 o => exact ⟨_, rfl, _, rfl, .inr ⟨.c0 h h2, _, rfl, .inl ⟨_, .c0 o, x⟩⟩⟩
    · cases h
inductive Q_even_net : List V → DueE → Prop where
  | c0 {v : V} (o : Odd v) : Q_even_net [v] (.num "switches")
inductive W_even_net : List V → Prop where
theorem sc_even_net : FnScope ["switches", "rules", "switch"] ["switches"] (defScope (top 78)) := ⟨rfl, rfl, rfl, by decide +kernel, rfl, by decide +kernel, by decide +kernel⟩
def R_even_net : List V → DueE → Prop := Q_even_net
def G_even_net : List V → Prop := W_even_net
theorem ok_even_net (T : TxP P K mg) : Fnc P w K mg base (L2.CX P w) 4 "even_net" ["switches"] (spD R_even_net G_even_net K) := by
  have GF := ok_need_switches (P := P) (w := w) (base := base) T
  obtain ⟨t1, h_MOST_SWITCHES⟩ := T.MOST_SWITCHES
  obtain ⟨t2, h_MOST_STATES⟩ := T.MOST_STATES
  obtain ⟨t3, h_MOST_CHAINS⟩ := T.MOST_CHAINS
  refine fnc T.even_net sc_even_net (fun vs H Q E h => ?_) (fun _ _ _ _ _ _ us hl => match us, hl with | [_], _ => rfl) (fun cdv A outer s H vs Q E hr h => ?_)
  · rcases h with ⟨d, h, _⟩ | ⟨h, _⟩ <;> (cases h <;> rfl)
  · refine ⟨_, pss_cons (ps_expr (pe_fn GF (hr.mono (by decide)) (passes_call (takes_of rfl rfl rfl rfl) (fun _ _ _ _ h => h)) (pa_cons (pv 0) pa_nil))) pss_any, ?_⟩
    rcases h with ⟨d, h, x⟩ | ⟨h, k⟩
    · cases h with
      | c0 o => exact ⟨_, rfl, .inl ⟨_, .c0 o, x⟩⟩
    · cases h
inductive Q_middle_net : List V → DueE → Prop where
  | c0 {v : V} (o : Odd v) : Q_middle_net [v] (.num "switches")
inductive W_middle_net : List V → Prop where
theorem sc_middle_net : FnScope ["switches", "rules", "switch"] ["switches"] (defScope (top 79)) := ⟨rfl, rfl, rfl, by decide +kernel, rfl, by decide +kernel, by decide +kernel⟩
def R_middle_net : List V → DueE → Prop := Q_middle_net
def G_middle_net : List V → Prop := W_middle_net
theorem ok_middle_net (T : TxP P K mg) : Fnc P w K mg base (L2.CX P w) 4 "middle_net" ["switches"] (spD R_middle_net G_middle_net K) := by
  have GF := ok_need_switches (P := P) (w := w) (base := base) T
  obtain ⟨t1, h_MOST_SWITCHES⟩ := T.MOST_SWITCHES
  obtain ⟨t2, h_MOST_STATES⟩ := T.MOST_STATES
  obtain ⟨t3, h_MOST_CHAINS⟩ := T.MOST_CHAINS
  refine fnc T.middle_net sc_middle_net (fun vs H Q E h => ?_) (fun _ _ _ _ _ _ us hl => match us, hl with | [_], _ => rfl) (fun cdv A outer s H vs Q E hr h => ?_)
  · rcases h with ⟨d, h, _⟩ | ⟨h, _⟩ <;> (cases h <;> rfl)
  · refine ⟨_, pss_cons (ps_expr (pe_fn GF (hr.mono (by decide)) (passes_call (takes_of rfl rfl rfl rfl) (fun _ _ _ _ h => h)) (pa_cons (pv 0) pa_nil))) pss_any, ?_⟩
    rcases h with ⟨d, h, x⟩ | ⟨h, k⟩
    · cases h with
      | c0 o => exact ⟨_, rfl, .inl ⟨_, .c0 o, x⟩⟩
    · cases h
inductive Q_ball_many : List V → DueE → Prop where
  | c0 {v u : V} (o : Odd v) : Q_ball_many [v, u] (.num "switches")
  | c1 {v u : V} (h : Sw v) (o : Odd u) : Q_ball_many [v, u] (.num "radius")
inductive W_ball_many : List V → Prop where
theorem sc_ball_many : FnScope ["switches", "radius", "zero"] ["switches", "radius"] (defScope (top 68)) := ⟨rfl, rfl, rfl, by decide +kernel, rfl, by decide +kernel, by decide +kernel⟩
def R_ball_many : List V → DueE → Prop := Q_ball_many
def G_ball_many : List V → Prop := W_ball_many
theorem ok_ball_many (T : TxP P K mg) : Fnc P w K mg base (L2.CX P w) 4 "ball_many" ["switches", "radius"] (spD R_ball_many G_ball_many K) := by
  have GF := ok_need_switches (P := P) (w := w) (base := base) T
  have GB := ok_is_between (P := P) (w := w) (base := base) T
  obtain ⟨t1, h_MOST_SWITCHES⟩ := T.MOST_SWITCHES
  obtain ⟨t2, h_MOST_STATES⟩ := T.MOST_STATES
  obtain ⟨t3, h_MOST_CHAINS⟩ := T.MOST_CHAINS
  refine fnc T.ball_many sc_ball_many (fun vs H Q E h => ?_) (fun _ _ _ _ _ _ us hl => match us, hl with | [_, _], _ => rfl) (fun cdv A outer s H vs Q E hr h => ?_)
  · rcases h with ⟨d, h, _⟩ | ⟨h, _⟩ <;> (cases h <;> rfl)
  · refine ⟨_, pss_cons (ps_expr (pe_fn GF (hr.mono (by decide)) (passes_call (takes_of rfl rfl rfl rfl) (fun _ _ _ _ h => h)) (pa_cons (pv 0) pa_nil))) (pss_cons (ps_if (pt_not (pt_val (pe_fn GB (hr.mono (by decide)) pass0 (pa_cons (pv 1) (pa_cons pe_int (pa_cons (pe_glob (v := .int 5) (by rfl) h_MOST_SWITCHES ⟨_, rfl⟩) pa_nil)))))) (pss_one (ps_raisePC rfl T.badNum hr (takes_of rfl rfl rfl rfl) (pa_cons pe_str pa_nil))) pss_nil) pss_any), ?_⟩
    rcases h with ⟨d, h, x⟩ | ⟨h, k⟩
    · cases h with
      | c0 o => exact ⟨_, rfl, .inl ⟨_, .c0 o, x⟩⟩
      | c1 h o => exact ⟨_, rfl, .inr ⟨.c0 h, _, rfl, ⟨_, _, _, rfl, .inr ⟨o, by decide, by decide, _, rfl, iteT ⟨_, rfl, fun d hd => x.go same_refl hd⟩⟩⟩⟩⟩
    · cases h
inductive Q_states_of_ones : List V → DueE → Prop where
  | c0 {v u : V} (o : Odd v) : Q_states_of_ones [v, u] (.num "switches")
  | c1 {v u : V} (h : Sw v) (o : Odd u) : Q_states_of_ones [v, u] (.num "ones")
inductive W_states_of_ones : List V → Prop where
theorem sc_states_of_ones : FnScope ["switches", "ones"] ["switches", "ones"] (defScope (top 80)) := ⟨rfl, rfl, rfl, by decide +kernel, rfl, by decide +kernel, by decide +kernel⟩
def R_states_of_ones : List V → DueE → Prop := Q_states_of_ones
def G_states_of_ones : List V → Prop := W_states_of_ones
theorem ok_states_of_ones (T : TxP P K mg) : Fnc P w K mg base (L2.CX P w) 4 "states_of_ones" ["switches", "ones"] (spD R_states_of_ones G_states_of_ones K) := by
  have GF := ok_need_switches (P := P) (w := w) (base := base) T
  have GB := ok_is_between (P := P) (w := w) (base := base) T
  obtain ⟨t1, h_MOST_SWITCHES⟩ := T.MOST_SWITCHES
  obtain ⟨t2, h_MOST_STATES⟩ := T.MOST_STATES
  obtain ⟨t3, h_MOST_CHAINS⟩ := T.MOST_CHAINS
  refine fnc T.states_of_ones sc_states_of_ones (fun vs H Q E h => ?_) (fun _ _ _ _ _ _ us hl => match us, hl with | [_, _], _ => rfl) (fun cdv A outer s H vs Q E hr h => ?_)
  · rcases h with ⟨d, h, _⟩ | ⟨h, _⟩ <;> (cases h <;> rfl)
  · refine ⟨_, pss_cons (ps_expr (pe_fn GF (hr.mono (by decide)) (passes_call (takes_of rfl rfl rfl rfl) (fun _ _ _ _ h => h)) (pa_cons (pv 0) pa_nil))) (pss_cons (ps_if (pt_not (pt_val (pe_fn GB (hr.mono (by decide)) pass0 (pa_cons (pv 1) (pa_cons pe_int (pa_cons (pv 0) pa_nil)))))) (pss_one (ps_raisePC rfl T.badNum hr (takes_of rfl rfl rfl rfl) (pa_cons pe_str pa_nil))) pss_nil) pss_any), ?_⟩
    rcases h with ⟨d, h, x⟩ | ⟨h, k⟩
    · cases h with
      | c0 o => exact ⟨_, rfl, .inl ⟨_, .c0 o, x⟩⟩
      | c1 h o => cases h with
        | mk n h0 h1 => exact ⟨_, rfl, .inr ⟨.c0 (.mk n h0 h1), _, rfl, _, rfl, ⟨_, _, _, rfl, .inr ⟨o, by decide, by omega, _, rfl, iteT ⟨_, rfl, fun d hd => x.go same_refl hd⟩⟩⟩⟩⟩
    · cases h
end
end K5
set_option maxHeartbeats 4000000
namespace K5
open PySem L2 PySem.EX PyProof.Rows
/-- an empty tuple -/
def EmptyT (K : PySem.W.Frag) (H : Hp) (v : V) : Prop := ∃ a, v = .ref a ∧ SqT K H a [] ∧ TyX K H (.ref a) (.type "tuple")
theorem SqT_same {K : PySem.W.Frag} {H H' : Hp} {a : Addr} {xs : List V} (s : Same H H') (h : SqT K H a xs) : SqT K H' a xs := h.ext s
theorem EmptyT.same {K : PySem.W.Frag} {H H' : Hp} {v : V} (h : EmptyT K H v) (s : Same H H') : EmptyT K H' v := by
  obtain ⟨a, e, h1, h2⟩ := h
  exact ⟨a, e, SqT_same s h1, TyX.grow s h2⟩
def spDH (R : Hp → List V → DueE → Prop) (G : Hp → List V → Prop) (K : PySem.W.Frag) : Sp := fun vs H Q E => (∃ d, R H vs d ∧ d.out K H E) ∨ (G H vs ∧ ∀ H', Same H H' → Q .non H')
section
variable {P : Program} {w : World} {K : PySem.W.Frag} {mg : Str → Option Value} {base : Heap}
def spRis (K : PySem.W.Frag) : Sp := fun vs H Q _ => ∃ v, vs = [v] ∧ EmptyT K H v ∧ ∀ H', Same H H' → Q (.bl true) H'
theorem sc_is_rising : FnScope ["several", "one", "other"] ["several"] (defScope (top 5)) := ⟨rfl, rfl, rfl, by decide +kernel, rfl, by decide +kernel, by decide +kernel⟩
theorem ok_is_rising (T : TxP P K mg) : Fnc P w K mg base CX0 1 "is_rising" ["several"] (spRis K) := by
  refine fnc0 T.is_rising sc_is_rising (fun vs H Q E h => ?_) (fun _ _ _ _ _ _ us hl => match us, hl with | [_], _ => rfl) (fun cdv A outer s H vs Q E hr h => ?_)
  · obtain ⟨v, rfl, _⟩ := h
    rfl
  · obtain ⟨v, rfl, ⟨a, rfl, hS, ty⟩, k⟩ := h
    refine ⟨_, pss_one (ps_ret (pe_callB (cr_all rfl) (by rfl) T.b_all (by decide +kernel) (pa_cons
      (pe_lc (own := [("one", 1), ("other", 2)]) (g := gTup K 2 (gCons (gName 1) (gCons (gName 2) gNil))) (tt := tYes) rfl sc_is_rising.nd (RZ.pi_zipA (by rfl) T.b_zip (pa_cons (pv 0) (pa_cons (pe_slice sl_tupA (pv 0) (po_some pe_int) po_none) pa_nil))) (blkOk_by (N := ["several", "one", "other"]) (sc := defScope (top 5)) (by decide +kernel))
        (fun _ _ _ _ _ => pg_tup rfl (pgs_cons (pg_name (i := 1) sc_is_rising.nd rfl (Or.inl rfl)) (pgs_cons (pg_name (i := 2) sc_is_rising.nd rfl (Or.inl rfl)) pgs_nil))) (fun _ _ _ _ _ => pts_nil)
        (fun _ _ _ _ _ => pe_cmpR op_lt (pv 1) (pv 2) (nomark _))) pa_nil))), ?_⟩
    refine ⟨_, rfl, _, rfl, _, rfl, a, [], rfl, hS, fun _ => ?_, fun hn => absurd ⟨rfl, rfl⟩ hn⟩
    refine ⟨a, a, [], [], rfl, .inr ⟨hS, hS, fun D hD => ?_⟩⟩
    refine ⟨fun i m H2 => i = 0 ∧ H2 = upd H D (.lst []), ⟨0, rfl, rfl⟩, ?_⟩
    rintro i m H2 ⟨rfl, rfl⟩
    have hS2 := SqT_same (Same.upd (o := .lst []) hD) hS
    refine .inl ⟨⟨[], [], hS2, hS2, .inl (Nat.le_refl _)⟩, D, [], rfl, SqL.of upd_same, k _ (Same.upd hD)⟩
def spTup (K : PySem.W.Frag) : Sp := fun vs H Q _ => ∃ (v : V) (m lo hi : Int), vs = [v, .int m, .int lo, .int hi] ∧ ((∃ ty, TyX K H v ty ∧ PySem.W.kitOne K ty (.type "tuple") = some false ∧ Q (.bl false) H) ∨
  ∃ (a : Addr) (ns : List Int), v = .ref a ∧ TyX K H (.ref a) (.type "tuple") ∧ SqT K H a (ns.map V.int) ∧ (ns.length : Int) = m ∧ ns.length ≤ 100 ∧ (∀ n ∈ ns, lo ≤ n ∧ n ≤ hi) ∧ ∀ H', Same H H' → Q (.bl true) H')
theorem sc_is_tuple_of : FnScope ["thing", "many", "low", "high", "item"] ["thing", "many", "low", "high"] (defScope (top 6)) := ⟨rfl, rfl, rfl, by decide +kernel, rfl, by decide +kernel, by decide +kernel⟩
theorem ok_is_tuple_of (T : TxP P K mg) : Fnc P w K mg base CX0 3 "is_tuple_of" ["thing", "many", "low", "high"] (spTup K) := by
  have GB : Fnc P w K mg base CX0 2 "is_between" ["thing", "low", "high"] spBtwO := ok_is_between T
  refine fnc0 T.is_tuple_of sc_is_tuple_of (fun vs H Q E h => ?_) (fun _ _ _ _ _ _ us hl => match us, hl with | [_, _, _, _], _ => rfl) (fun cdv A outer s H vs Q E hr h => ?_)
  · obtain ⟨v, m, lo, hi, rfl, _⟩ := h
    rfl
  · obtain ⟨v, m, lo, hi, rfl, h⟩ := h
    refine ⟨_, pss_one (ps_ret (pe_and (pe_callB call_isi (by rfl) T.b_isinstance (by decide +kernel) (pa_cons (pv 0) (pa_cons (pe_tyN (n := "tuple") T.b_tuple (by rfl) (by decide +kernel)) pa_nil)))
      (pe_and (pe_cmpR op_eq (pe_callB call_len_seq (by rfl) T.b_len PySem.boot_len (pa_cons (pv 0) pa_nil)) (pv 1) (nomark _))
      (pe_one (pe_callB (cr_all rfl) (by rfl) T.b_all (by decide +kernel) (pa_cons
        (pe_lc (own := [("item", 4)]) (g := gName 4) (tt := tYes) rfl sc_is_tuple_of.nd (pi_tup (pv 0)) (blkOk_by (N := ["thing", "many", "low", "high", "item"]) (sc := defScope (top 6)) (by decide +kernel))
          (fun _ _ _ _ _ => pg_name (i := 4) sc_is_tuple_of.nd rfl (Or.inl rfl)) (fun _ _ _ _ _ => pts_nil) (fun _ _ _ _ _ => pe_fn GB hr pass0 (pa_cons (pv 4) (pa_cons (pv 2) (pa_cons (pv 3) pa_nil))))) pa_nil)))))), ?_⟩
    rcases h with ⟨ty, h1, h2, k⟩ | ⟨a, ns, rfl, ty, hS, hm, hlen, hin, k⟩
    · exact ⟨_, rfl, v, .ty "tuple", _, _, false, rfl, .ty _, h1, h2, _, rfl, iteF k⟩
    · refine ⟨_, rfl, .ref a, .ty "tuple", _, _, true, rfl, .ty _, ty, kit_self, _, rfl, iteT ?_⟩
      refine ⟨_, rfl, a, _, rfl, .inr hS, _, rfl, rfl, true, ?_, iteT ?_⟩
      · rw [List.length_map, hm]
        simp
      refine ⟨_, rfl, a, rfl, ⟨_, hS⟩, fun D hD => lc_tup (K := K) (a := a) (xs := ns.map V.int) (fun i H2 => Same H H2 ∧ ∃ bs : List Bool, H2 D = some (.lst (bs.map V.bl)) ∧ bs.length ≤ i ∧ bs.all id = true) ⟨Same.upd hD, [], upd_same, Nat.le_refl _, rfl⟩ (fun i H2 _ h => SqT_same h.1 hS) ?_ ?_⟩
      · rintro i x H2 hx ⟨s2, bs, hz, hl, hb⟩
        obtain ⟨z, hz1, rfl⟩ := map_get hx
        have hi := (List.getElem?_eq_some_iff.mp hz1).1
        have hzz := hin z (List.mem_of_getElem? hz1)
        refine ⟨rfl, ?_⟩
        refine ⟨_, rfl, _, rfl, _, rfl, _, lo, _, rfl, .inl ⟨z, rfl, _, hz, small1000 (by rw [List.length_map]; omega), s2.put hD, bs ++ [true], ?_, by rw [List.length_append, List.length_singleton]; omega, by rw [List.all_append, hb]; rfl⟩⟩
        rw [upd_same, ← map_snoc, decide_eq_true hzz.1, decide_eq_true hzz.2]
        rfl
      · rintro H2 ⟨s2, bs, hz, hl, hb⟩
        refine ⟨D, bs, rfl, SqL.of hz, ?_⟩
        rw [hb]
        exact k _ s2
def spState (K : PySem.W.Frag) : Sp := fun vs H Q E => ∃ (m : Int) (v : V), vs = [.int m, v] ∧ spTup K [v, .int m, .int 0, .int 1] H Q E
theorem sc_is_state : FnScope ["many", "thing"] ["many", "thing"] (defScope (top 41)) := ⟨rfl, rfl, rfl, by decide +kernel, rfl, by decide +kernel, by decide +kernel⟩
theorem ok_is_state (T : TxP P K mg) : Fnc P w K mg base CX0 4 "is_state" ["many", "thing"] (spState K) := by
  have GT : Fnc P w K mg base CX0 3 "is_tuple_of" ["thing", "many", "low", "high"] (spTup K) := ok_is_tuple_of T
  refine fnc0 T.is_state sc_is_state (fun vs H Q E h => ?_) (fun _ _ _ _ _ _ us hl => match us, hl with | [_, _], _ => rfl) (fun cdv A outer s H vs Q E hr h => ?_)
  · obtain ⟨m, v, rfl, _⟩ := h
    rfl
  · obtain ⟨m, v, rfl, h⟩ := h
    refine ⟨_, pss_one (ps_ret (pe_fn GT hr pass0 (pa_cons (pv 1) (pa_cons (pv 0) (pa_cons pe_int (pa_cons pe_int pa_nil)))))), ?_⟩
    exact ⟨_, rfl, _, rfl, h⟩
theorem Odd.notT {v : V} (o : Odd v) {m lo hi : Int} {H : Hp} {Q : VK} {E : XK} (k : Q (.bl false) H) : spTup K [v, .int m, .int lo, .int hi] H Q E := by
  obtain ⟨ty, h1, h2⟩ := o.ty (K := K) (H := H)
  exact ⟨v, m, lo, hi, rfl, .inl ⟨ty, h1, h2, k⟩⟩
/-! ### lots -/
inductive Q_need_lot (K : PySem.W.Frag) (H : Hp) : List V → DueE → Prop where
  | c0 {v u : V} (o : Odd v) : Q_need_lot K H [v, u] (.num "switches")
  | c1 {v u : V} (h : Sw v) (o : Odd u) : Q_need_lot K H [v, u] .states
inductive W_need_lot (K : PySem.W.Frag) (H : Hp) : List V → Prop where
  | c0 {v u : V} (h : Sw v) (e : EmptyT K H u) : W_need_lot K H [v, u]
theorem sc_need_lot : FnScope ["switches", "states", "state"] ["switches", "states"] (defScope (top 81)) := ⟨rfl, rfl, rfl, by decide +kernel, rfl, by decide +kernel, by decide +kernel⟩
theorem ok_need_lot (T : TxP P K mg) : Fnc P w K mg base (L2.CX P w) 5 "need_lot" ["switches", "states"] (spDH (Q_need_lot K) (W_need_lot K) K) := by
  have GS : Fnc P w K mg base (L2.CX P w) 3 "need_switches" ["switches"] (spD R_need_switches G_need_switches K) := ok_need_switches T
  have GT : Fnc P w K mg base CX0 4 "is_state" ["many", "thing"] (spState K) := ok_is_state T
  have GR : Fnc P w K mg base CX0 1 "is_rising" ["several"] (spRis K) := ok_is_rising T
  refine fnc T.need_lot sc_need_lot (fun vs H Q E h => ?_) (fun _ _ _ _ _ _ us hl => match us, hl with | [_, _], _ => rfl) (fun cdv A outer s H vs Q E hr h => ?_)
  · rcases h with ⟨d, h, _⟩ | ⟨h, _⟩ <;> (cases h <;> rfl)
  · refine ⟨_, pss_cons (ps_expr (pe_fn GS (hr.mono (by decide)) (passes_call (takes_of rfl rfl rfl rfl) (fun _ _ _ _ h => h)) (pa_cons (pv 0) pa_nil)))
      (pss_cons (ps_if (PW.pt (pw_or (pt_not (pt_val (pe_callB call_isi (by rfl) T.b_isinstance (by decide +kernel) (pa_cons (pv 1) (pa_cons (pe_tyN (n := "tuple") T.b_tuple (by rfl) (by decide +kernel)) pa_nil)))))
          (pw_or1 (pt_not (pt_val (pe_callB (cr_all rfl) (by rfl) T.b_all (by decide +kernel) (pa_cons
            (pe_lc (own := [("state", 2)]) (g := gName 2) (tt := tYes) rfl sc_need_lot.nd (pi_tup (pv 1)) (blkOk_by (N := ["switches", "states", "state"]) (sc := defScope (top 81)) (by decide +kernel))
              (fun _ _ _ _ _ => pg_name (i := 2) sc_need_lot.nd rfl (Or.inl rfl)) (fun _ _ _ _ _ => pts_nil) (fun _ _ _ _ _ => pe_fn GT hr pass0 (pa_cons (pv 0) (pa_cons (pv 2) pa_nil)))) pa_nil)))))))
        (pss_one (ps_raiseO rfl T.o_BadStates (takes_of rfl rfl rfl rfl))) pss_nil)
      (pss_one (ps_if (pt_not (pt_val (pe_fn GR (hr.mono (by decide)) pass0 (pa_cons (pv 1) pa_nil)))) (pss_one (ps_raiseO rfl T.o_BadStates (takes_of rfl rfl rfl rfl))) pss_nil))), ?_⟩
    rcases h with ⟨d, h, x⟩ | ⟨h, k⟩
    · cases h with
      | c0 o => exact ⟨_, rfl, .inl ⟨_, .c0 o, x⟩⟩
      | c1 h o =>
        refine ⟨_, rfl, .inr ⟨.c0 h, ?_⟩⟩
        rename_i v u
        obtain ⟨ty, h1, h2⟩ := o.ty (K := K) (H := H)
        exact ⟨_, rfl, u, .ty "tuple", _, _, false, rfl, .ty _, h1, h2, _, rfl, iteT (iteT (x H same_refl))⟩
    · cases h with
      | c0 h e =>
        obtain ⟨a, rfl, hS, ty⟩ := e
        refine ⟨_, rfl, .inr ⟨.c0 h, ?_⟩⟩
        refine ⟨_, rfl, .ref a, .ty "tuple", _, _, true, rfl, .ty _, ty, kit_self, _, rfl, iteF ?_⟩
        refine ⟨_, rfl, a, rfl, ⟨_, hS⟩, fun D hD => lc_tup (K := K) (a := a) (xs := []) (fun i H2 => H2 = upd H D (.lst [])) rfl (fun i H2 _ h => by rw [h]; exact SqT_same (Same.upd hD) hS) (fun i x H2 hx _ => by simp at hx) ?_⟩
        rintro H2 rfl
        refine ⟨D, [], rfl, SqL.of upd_same, _, rfl, iteF ?_⟩
        have s1 : Same H (upd H D (.lst [])) := Same.upd hD
        exact ⟨_, rfl, _, rfl, ⟨a, rfl, SqT_same s1 hS, TyX.grow s1 ty⟩, fun H' s2 => ⟨_, rfl, iteF (k _ (s1.trans s2))⟩⟩
end
end K5
set_option maxHeartbeats 4000000
namespace K5
open PySem L2 PySem.EX PyProof.Rows
section
variable {P : Program} {w : World} {K : PySem.W.Frag} {mg : Str → Option Value} {base : Heap}
def spR (R : Hp → List V → DueE → Prop) (K : PySem.W.Frag) : Sp := fun vs H Q E => ∃ d, R H vs d ∧ d.out K H E
theorem sc_fewest_chains : FnScope ["switches", "states"] ["switches", "states"] (defScope (top 91)) := ⟨rfl, rfl, rfl, by decide +kernel, rfl, by decide +kernel, by decide +kernel⟩
theorem ok_fewest_chains (T : TxP P K mg) : Fnc P w K mg base (L2.CX P w) 6 "fewest_chains" ["switches", "states"] (spR (Q_need_lot K) K) := by
  have GF := ok_need_lot (P := P) (w := w) (base := base) T
  refine fnc T.fewest_chains sc_fewest_chains (fun vs H Q E h => ?_) (fun _ _ _ _ _ _ us hl => match us, hl with | [_, _], _ => rfl) (fun cdv A outer s H vs Q E hr h => ?_)
  · obtain ⟨d, h, _⟩ := h
    cases h <;> rfl
  · refine ⟨_, pss_cons (ps_expr (pe_fn GF hr (passes_call (takes_of rfl rfl rfl rfl) (fun _ _ _ _ h => h)) (pa_cons (pv 0) (pa_cons (pv 1) pa_nil)))) pss_any, ?_⟩
    obtain ⟨d, h, x⟩ := h
    cases h with
    | c0 o => exact ⟨_, rfl, _, rfl, .inl ⟨_, .c0 o, x⟩⟩
    | c1 h o => exact ⟨_, rfl, _, rfl, .inl ⟨_, .c1 h o, x⟩⟩
theorem sc_greatest_crossing : FnScope ["switches", "states"] ["switches", "states"] (defScope (top 92)) := ⟨rfl, rfl, rfl, by decide +kernel, rfl, by decide +kernel, by decide +kernel⟩
theorem ok_greatest_crossing (T : TxP P K mg) : Fnc P w K mg base (L2.CX P w) 6 "greatest_crossing" ["switches", "states"] (spR (Q_need_lot K) K) := by
  have GF := ok_need_lot (P := P) (w := w) (base := base) T
  refine fnc T.greatest_crossing sc_greatest_crossing (fun vs H Q E h => ?_) (fun _ _ _ _ _ _ us hl => match us, hl with | [_, _], _ => rfl) (fun cdv A outer s H vs Q E hr h => ?_)
  · obtain ⟨d, h, _⟩ := h
    cases h <;> rfl
  · refine ⟨_, pss_cons (ps_expr (pe_fn GF hr (passes_call (takes_of rfl rfl rfl rfl) (fun _ _ _ _ h => h)) (pa_cons (pv 0) (pa_cons (pv 1) pa_nil)))) pss_any, ?_⟩
    obtain ⟨d, h, x⟩ := h
    cases h with
    | c0 o => exact ⟨_, rfl, _, rfl, .inl ⟨_, .c0 o, x⟩⟩
    | c1 h o => exact ⟨_, rfl, _, rfl, .inl ⟨_, .c1 h o, x⟩⟩
theorem sc_long_chain : FnScope ["switches", "states", "best", "state", "ahead", "longest", "several", "sizes"] ["switches", "states"] (defScope (top 99)) := ⟨rfl, rfl, rfl, by decide +kernel, rfl, by decide +kernel, by decide +kernel⟩
theorem ok_long_chain (T : TxP P K mg) : Fnc P w K mg base (L2.CX P w) 6 "long_chain" ["switches", "states"] (spR (Q_need_lot K) K) := by
  have GF := ok_need_lot (P := P) (w := w) (base := base) T
  refine fnc T.long_chain sc_long_chain (fun vs H Q E h => ?_) (fun _ _ _ _ _ _ us hl => match us, hl with | [_, _], _ => rfl) (fun cdv A outer s H vs Q E hr h => ?_)
  · obtain ⟨d, h, _⟩ := h
    cases h <;> rfl
  · refine ⟨_, pss_cons (ps_expr (pe_fn GF hr (passes_call (takes_of rfl rfl rfl rfl) (fun _ _ _ _ h => h)) (pa_cons (pv 0) (pa_cons (pv 1) pa_nil)))) pss_any, ?_⟩
    obtain ⟨d, h, x⟩ := h
    cases h with
    | c0 o => exact ⟨_, rfl, _, rfl, .inl ⟨_, .c0 o, x⟩⟩
    | c1 h o => exact ⟨_, rfl, _, rfl, .inl ⟨_, .c1 h o, x⟩⟩
theorem sc_layers : FnScope ["switches", "states", "heights", "found", "state", "ahead", "height"] ["switches", "states"] (defScope (top 100)) := ⟨rfl, rfl, rfl, by decide +kernel, rfl, by decide +kernel, by decide +kernel⟩
theorem ok_layers (T : TxP P K mg) : Fnc P w K mg base (L2.CX P w) 6 "layers" ["switches", "states"] (spR (Q_need_lot K) K) := by
  have GF := ok_need_lot (P := P) (w := w) (base := base) T
  refine fnc T.layers sc_layers (fun vs H Q E h => ?_) (fun _ _ _ _ _ _ us hl => match us, hl with | [_, _], _ => rfl) (fun cdv A outer s H vs Q E hr h => ?_)
  · obtain ⟨d, h, _⟩ := h
    cases h <;> rfl
  · refine ⟨_, pss_cons (ps_expr (pe_fn GF hr (passes_call (takes_of rfl rfl rfl rfl) (fun _ _ _ _ h => h)) (pa_cons (pv 0) (pa_cons (pv 1) pa_nil)))) pss_any, ?_⟩
    obtain ⟨d, h, x⟩ := h
    cases h with
    | c0 o => exact ⟨_, rfl, _, rfl, .inl ⟨_, .c0 o, x⟩⟩
    | c1 h o => exact ⟨_, rfl, _, rfl, .inl ⟨_, .c1 h o, x⟩⟩
inductive Q_need_crossing_number (K : PySem.W.Frag) (H : Hp) : List V → DueE → Prop where
  | c0 {v u z : V} (o : Odd v) : Q_need_crossing_number K H [v, u, z] (.num "switches")
  | c1 {v u z : V} (h : Sw v) (o : Odd u) : Q_need_crossing_number K H [v, u, z] .states
  | c2 {v u z : V} (h : Sw v) (e : EmptyT K H u) (o : Odd z) : Q_need_crossing_number K H [v, u, z] (.num "number")
theorem sc_need_crossing_number : FnScope ["switches", "states", "number"] ["switches", "states", "number"] (defScope (top 93)) := ⟨rfl, rfl, rfl, by decide +kernel, rfl, by decide +kernel, by decide +kernel⟩
theorem ok_need_crossing_number (T : TxP P K mg) : Fnc P w K mg base (L2.CX P w) 6 "need_crossing_number" ["switches", "states", "number"] (spR (Q_need_crossing_number K) K) := by
  have GF := ok_need_lot (P := P) (w := w) (base := base) T
  have GB : Fnc P w K mg base CX0 2 "is_between" ["thing", "low", "high"] spBtwO := ok_is_between T
  obtain ⟨t3, hM⟩ := T.MOST_CHAINS
  refine fnc T.need_crossing_number sc_need_crossing_number (fun vs H Q E h => ?_) (fun _ _ _ _ _ _ us hl => match us, hl with | [_, _, _], _ => rfl) (fun cdv A outer s H vs Q E hr h => ?_)
  · obtain ⟨d, h, _⟩ := h
    cases h <;> rfl
  · refine ⟨_, pss_cons (ps_expr (pe_fn GF hr (passes_call (takes_of rfl rfl rfl rfl) (fun _ _ _ _ h => h)) (pa_cons (pv 0) (pa_cons (pv 1) pa_nil))))
      (pss_one (ps_if (pt_not (pt_val (pe_fn GB (hr.mono (by decide)) pass0 (pa_cons (pv 2) (pa_cons pe_int (pa_cons (pe_glob (v := .int 33) (by rfl) hM ⟨_, rfl⟩) pa_nil)))))) (pss_one (ps_raisePC rfl T.badNum hr (takes_of rfl rfl rfl rfl) (pa_cons pe_str pa_nil))) pss_nil)), ?_⟩
    obtain ⟨d, h, x⟩ := h
    cases h with
    | c0 o => exact ⟨_, rfl, _, rfl, .inl ⟨_, .c0 o, x⟩⟩
    | c1 h o => exact ⟨_, rfl, _, rfl, .inl ⟨_, .c1 h o, x⟩⟩
    | c2 h e o => exact ⟨_, rfl, _, rfl, .inr ⟨.c0 h e, fun H' s' => ⟨_, rfl, _, _, _, rfl, .inr ⟨o, by decide, by decide, _, rfl, iteT ⟨_, rfl, fun d hd => x.go s' hd⟩⟩⟩⟩⟩
theorem sc_crossing_paper : FnScope ["switches", "states", "number", "found"] ["switches", "states", "number"] (defScope (top 94)) := ⟨rfl, rfl, rfl, by decide +kernel, rfl, by decide +kernel, by decide +kernel⟩
theorem ok_crossing_paper (T : TxP P K mg) : Fnc P w K mg base (L2.CX P w) 7 "crossing_paper" ["switches", "states", "number"] (spR (Q_need_crossing_number K) K) := by
  have GF := ok_need_crossing_number (P := P) (w := w) (base := base) T
  refine fnc T.crossing_paper sc_crossing_paper (fun vs H Q E h => ?_) (fun _ _ _ _ _ _ us hl => match us, hl with | [_, _, _], _ => rfl) (fun cdv A outer s H vs Q E hr h => ?_)
  · obtain ⟨d, h, _⟩ := h
    cases h <;> rfl
  · refine ⟨_, pss_cons (ps_expr (pe_fn GF hr (passes_call (takes_of rfl rfl rfl rfl) (fun _ _ _ _ h => h)) (pa_cons (pv 0) (pa_cons (pv 1) (pa_cons (pv 2) pa_nil))))) pss_any, ?_⟩
    obtain ⟨d, h, x⟩ := h
    match vs, h with
    | [v, u, z], h => exact ⟨_, rfl, _, rfl, _, rfl, _, h, x⟩
theorem sc_is_crossing_paper : FnScope ["switches", "states", "number", "thing"] ["switches", "states", "number", "thing"] (defScope (top 98)) := ⟨rfl, rfl, rfl, by decide +kernel, rfl, by decide +kernel, by decide +kernel⟩
inductive Q_is_crossing_paper (K : PySem.W.Frag) (H : Hp) : List V → DueE → Prop where
  | mk {v u z y : V} {d : DueE} (h : Q_need_crossing_number K H [v, u, z] d) : Q_is_crossing_paper K H [v, u, z, y] d
theorem ok_is_crossing_paper (T : TxP P K mg) : Fnc P w K mg base (L2.CX P w) 7 "is_crossing_paper" ["switches", "states", "number", "thing"] (spR (Q_is_crossing_paper K) K) := by
  have GF := ok_need_crossing_number (P := P) (w := w) (base := base) T
  refine fnc T.is_crossing_paper sc_is_crossing_paper (fun vs H Q E h => ?_) (fun _ _ _ _ _ _ us hl => match us, hl with | [_, _, _, _], _ => rfl) (fun cdv A outer s H vs Q E hr h => ?_)
  · obtain ⟨d, h, _⟩ := h
    cases h <;> rfl
  · refine ⟨_, pss_cons (ps_expr (pe_fn GF hr (passes_call (takes_of rfl rfl rfl rfl) (fun _ _ _ _ h => h)) (pa_cons (pv 0) (pa_cons (pv 1) (pa_cons (pv 2) pa_nil))))) pss_any, ?_⟩
    obtain ⟨d, h, x⟩ := h
    cases h with
    | mk h => exact ⟨_, rfl, _, rfl, _, rfl, _, h, x⟩
/-! ### full_fits -/
inductive Q_full_fits : List V → DueE → Prop where
  | c0 {v u z : V} (o : OddK v) : Q_full_fits [v, u, z] .kind
  | c1 {v u z : V} (h : Kd v) (o : Odd u) : Q_full_fits [v, u, z] .states
theorem sc_full_fits : FnScope ["kind", "one", "other", "switches"] ["kind", "one", "other"] (defScope (top 74)) := ⟨rfl, rfl, rfl, by decide +kernel, rfl, by decide +kernel, by decide +kernel⟩
theorem ok_full_fits (T : TxP P K mg) : Fnc P w K mg base (L2.CX P w) 5 "full_fits" ["kind", "one", "other"] (spR (fun _ => Q_full_fits) K) := by
  have GK : Fnc P w K mg base (L2.CX P w) 1 "need_full_kind" ["kind"] (spD R_need_full_kind G_need_full_kind K) := ok_need_full_kind T
  have GT : Fnc P w K mg base CX0 4 "is_state" ["many", "thing"] (spState K) := ok_is_state T
  obtain ⟨t3, hM⟩ := T.MOST_SWITCHES
  refine fnc T.full_fits sc_full_fits (fun vs H Q E h => ?_) (fun _ _ _ _ _ _ us hl => match us, hl with | [_, _, _], _ => rfl) (fun cdv A outer s H vs Q E hr h => ?_)
  · obtain ⟨d, h, _⟩ := h
    cases h <;> rfl
  · refine ⟨_, pss_cons (ps_expr (pe_fn GK (hr.mono (by decide)) (passes_call (takes_of rfl rfl rfl rfl) (fun _ _ _ _ h => h)) (pa_cons (pv 0) pa_nil)))
      (pss_cons (ps_if (pt_not (pt_val (pe_callB (cr_any rfl) (by rfl) T.b_any (by decide +kernel) (pa_cons
            (pe_lc (own := [("switches", 3)]) (g := gName 3) (tt := tYes) rfl sc_full_fits.nd (pi_range2 (by rfl) T.b_range (pa_cons pe_int (pa_cons (pe_op op_add (pe_glob (v := .int 5) (by rfl) hM ⟨_, rfl⟩) pe_int) pa_nil))) (blkOk_by (N := ["kind", "one", "other", "switches"]) (sc := defScope (top 74)) (by decide +kernel))
              (fun _ _ _ _ _ => pg_name (i := 3) sc_full_fits.nd rfl (Or.inl rfl)) (fun _ _ _ _ _ => pts_nil) (fun _ _ _ _ _ => pe_and (pe_fn GT hr pass0 (pa_cons (pv 3) (pa_cons (pv 1) pa_nil))) (pe_one (pe_fn GT hr pass0 (pa_cons (pv 3) (pa_cons (pv 2) pa_nil)))))) pa_nil))))
        (pss_one (ps_raiseO rfl T.o_BadStates (takes_of rfl rfl rfl rfl))) pss_nil) pss_any), ?_⟩
    obtain ⟨d, h, x⟩ := h
    cases h with
    | c0 o => exact ⟨_, rfl, .inl ⟨_, .c0 o.o o.n1 o.n2 o.n3, x⟩⟩
    | c1 h o =>
      cases h with
      | mk y hy =>
        refine ⟨_, rfl, .inr ⟨.c0 hy, ?_⟩⟩
        refine ⟨_, _, rfl, rfl, _, _, rfl, ⟨by decide, by decide, by decide, by decide⟩, fun D hD => lc_range (lo := 1) (n := _) (fun i H2 => Same H H2 ∧ ∃ bs : List Bool, H2 D = some (.lst (bs.map V.bl)) ∧ bs.length ≤ i ∧ bs.any id = false) ⟨Same.upd hD, [], upd_same, Nat.le_refl _, rfl⟩ ?_ ?_⟩
        · rintro i H2 hi ⟨s2, bs, hz, hl, hb⟩
          have hi5 : i < 5 := hi
          refine ⟨rfl, ?_⟩
          obtain ⟨ty, h1, h2⟩ := o.ty (K := K) (H := H2)
          refine ⟨_, rfl, _, rfl, _, _, rfl, _, _, _, _, rfl, .inl ⟨ty, h1, h2, _, rfl, iteF ⟨_, hz, small1000 (by rw [List.length_map]; omega), s2.put hD, bs ++ [false], ?_, by rw [List.length_append, List.length_singleton]; omega, by rw [List.any_append, hb]; rfl⟩⟩⟩
          rw [upd_same, ← map_snoc]
        · rintro H2 ⟨s2, bs, hz, hl, hb⟩
          refine ⟨D, bs, rfl, SqL.of hz, _, rfl, ?_⟩
          rw [hb]
          exact iteT (x _ s2)
end
end K5
set_option maxHeartbeats 4000000
namespace K5
open PySem L2 PySem.EX PyProof.Rows
def clsBody : Stmt → List Stmt
  | .ClassDef (body := b) .. => b
  | _ => []
abbrev pst (i : Nat) : Stmt := (clsBody (top 50)).getD i (.Pass ⟨0, 0, 0, 0⟩)
abbrev bst (i : Nat) : Stmt := (clsBody (top 115)).getD i (.Pass ⟨0, 0, 0, 0⟩)
abbrev cP (K : PySem.W.Frag) : Addr := He.ga K "Plan"
abbrev cB (K : PySem.W.Frag) : Addr := He.ga K "Planbook"
/-- a method of a class -/
def Mth (K : PySem.W.Frag) (C q m : Str) (st : Stmt) : Prop := ∃ fd, FunD K m q (defArgs st) (defBody st) (defScope st) [] [] (He.ma K (He.ga K C) m) fd
def Pty (K : PySem.W.Frag) (C q f : Str) (st : Stmt) : Prop := ∃ p g fd, PropOf K (He.ga K C) f p g ∧ FunD K f q (defArgs st) (defBody st) (defScope st) [] [] g fd
structure TxC (prog : Program) (K : PySem.W.Frag) (mg : Str → Option Value) : Prop where
  needA : Def K mg "need_arrows" (top 49)
  isList : Def K mg "is_list" (top 4)
  deedRight : Def K mg "deed_right" (top 111)
  pbText : Def K mg "planbook_text" (top 117)
  enum : mg "enumerate" = none
  sorted : mg "sorted" = none
  pGlo : mg "Plan" = some (.ref (cP K))
  pCls : Cls K (cP K)
  pMk : Mk K (cP K) (He.ma K (cP K) "__init__")
  pInit : Mth K "Plan" "Plan.__init__" "__init__" (pst 0)
  pS : NoAttr K (cP K) "own_switches"
  pA : NoAttr K (cP K) "own_arrows"
  pSw : Pty K "Plan" "Plan.switches" "switches" (pst 1)
  bGlo : mg "Planbook" = some (.ref (cB K))
  bCls : Cls K (cB K)
  bMk : Mk K (cB K) (He.ma K (cB K) "__init__")
  bInit : Mth K "Planbook" "Planbook.__init__" "__init__" (bst 0)
  bP : NoAttr K (cB K) "own_plans"
  bD : NoAttr K (cB K) "own_deeds"
  bL : NoAttr K (cB K) "own_later"
  bSw : Pty K "Planbook" "Planbook.switches" "switches" (bst 1)
  bPl : Pty K "Planbook" "Planbook.plan" "plan" (bst 2)
  mDo : Meth K (cB K) "do" (He.ma K (cB K) "do")
  fDo : Mth K "Planbook" "Planbook.do" "do" (bst 3)
  mUndo : Meth K (cB K) "undo" (He.ma K (cB K) "undo")
  fUndo : Mth K "Planbook" "Planbook.undo" "undo" (bst 4)
  mRedo : Meth K (cB K) "redo" (He.ma K (cB K) "redo")
  fRedo : Mth K "Planbook" "Planbook.redo" "redo" (bst 5)
  mLets : Meth K (cB K) "lets" (He.ma K (cB K) "lets")
  fLets : Mth K "Planbook" "Planbook.lets" "lets" (bst 9)
  mMost : Meth K (cB K) "most_behind" (He.ma K (cB K) "most_behind")
  fMost : Mth K "Planbook" "Planbook.most_behind" "most_behind" (bst 11)
  nNone : PySem.W.kitOne K (.type "NoneType") (.ref (cB K)) = some false
  nInt : PySem.W.kitOne K (.type "int") (.ref (cB K)) = some false
  nStr : PySem.W.kitOne K (.type "str") (.ref (cB K)) = some false
section
variable {P : Program} {w : World} {K : PySem.W.Frag} {mg : Str → Option Value} {base : Heap}
/-- the plan of one switch without arrows stands at x -/
def Plan0 (K : PySem.W.Frag) (H : Hp) (x : Addr) : Prop := ∃ dx t, H x = some (.ins (cP K) dx [("own_switches", .int 1), ("own_arrows", .ref t)]) ∧ H t = some (.tup [])
theorem Plan0.same {H H' : Hp} {x : Addr} (h : Plan0 K H x) (s : Same H H') : Plan0 K H' x := by
  obtain ⟨dx, t, h1, h2⟩ := h
  exact ⟨dx, t, s _ _ h1, s _ _ h2⟩
/-- the book behind nothing -/
def Book0 (K : PySem.W.Frag) (H : Hp) (b : Addr) : Prop := ∃ dx l1 l2 l3 x, H b = some (.ins (cB K) dx [("own_plans", .ref l1), ("own_deeds", .ref l2), ("own_later", .ref l3)]) ∧ H l1 = some (.lst [.ref x]) ∧ H l2 = some (.lst []) ∧ H l3 = some (.lst []) ∧ Plan0 K H x
theorem Book0.same {H H' : Hp} {b : Addr} (h : Book0 K H b) (s : Same H H') : Book0 K H' b := by
  obtain ⟨dx, l1, l2, l3, x, h1, h2, h3, h4, h5⟩ := h
  exact ⟨dx, l1, l2, l3, x, s _ _ h1, s _ _ h2, s _ _ h3, s _ _ h4, h5.same s⟩
def spList0 (K : PySem.W.Frag) : Sp := fun vs H Q _ => ∃ a, vs = [.ref a] ∧ H a = some (.lst []) ∧ ∀ H', Same H H' → Q (.bl true) H'
theorem sc_is_list : FnScope ["thing"] ["thing"] (defScope (top 4)) := ⟨rfl, rfl, rfl, by decide +kernel, rfl, by decide +kernel, by decide +kernel⟩
theorem ok_is_list (T : TxP P K mg) (C : TxC P K mg) : Fnc P w K mg base CX0 1 "is_list" ["thing"] (spList0 K) := by
  refine fnc0 C.isList sc_is_list (fun vs H Q E h => ?_) (fun _ _ _ _ _ _ us hl => match us, hl with | [_], _ => rfl) (fun cdv A outer s H vs Q E hr h => ?_)
  · obtain ⟨a, rfl, _⟩ := h
    rfl
  · obtain ⟨a, rfl, ha, k⟩ := h
    refine ⟨_, pss_one (ps_ret (pe_callB call_isiT (by rfl) T.b_isinstance (by decide +kernel) (pa_cons (pv 0) (pa_cons (pe_tup (pa_cons (pe_tyN (n := "list") T.b_list (by rfl) (by decide +kernel)) (pa_cons (pe_tyN (n := "tuple") T.b_tuple (by rfl) (by decide +kernel)) pa_nil))) pa_nil)))), ?_⟩
    refine ⟨_, rfl, by decide, fun p hp => ?_⟩
    exact ⟨.ref a, p, _, _, _, true, rfl, upd_same, .cons (.ty _) (.cons (.ty _) .nil), .base (.lst ((Same.upd hp) _ _ ha)), by with_unfolding_all rfl, k _ (Same.upd hp)⟩
def spNeedA0 : Sp := fun vs H Q _ => ∃ a, vs = [.int 1, .ref a] ∧ H a = some (.lst []) ∧ ∀ H', Same H H' → Q .non H'
theorem sc_needA : FnScope ["switches", "arrows", "known", "index", "arrow"] ["switches", "arrows"] (defScope (top 49)) := ⟨rfl, rfl, rfl, by decide +kernel, rfl, by decide +kernel, by decide +kernel⟩
theorem ok_needA (T : TxP P K mg) (C : TxC P K mg) : Fnc P w K mg base CX0 3 "need_arrows" ["switches", "arrows"] spNeedA0 := by
  have GB : Fnc P w K mg base CX0 2 "is_between" ["thing", "low", "high"] spBtwO := ok_is_between T
  have GL : Fnc P w K mg base CX0 1 "is_list" ["thing"] (spList0 K) := ok_is_list T C
  obtain ⟨tm, hm⟩ := T.MOST_SWITCHES
  refine fnc0 C.needA sc_needA (fun vs H Q E h => ?_) (fun _ _ _ _ _ _ us hl => match us, hl with | [_, _], _ => rfl) (fun cdv A outer s H vs Q E hr h => ?_)
  · obtain ⟨a, rfl, _⟩ := h
    rfl
  · obtain ⟨a, rfl, ha, k⟩ := h
    refine ⟨_, pss_cons (ps_if (pt_not (pt_val (pe_fn GB hr pass0 (pa_cons (pv 0) (pa_cons pe_int (pa_cons (pe_glob (v := .int 5) (by rfl) hm ⟨_, rfl⟩) pa_nil)))))) (pss_one ps_never) pss_nil)
      (pss_cons (ps_if (pt_not (pt_val (pe_fn GL (hr.mono (by decide)) pass0 (pa_cons (pv 1) pa_nil)))) (pss_one ps_never) pss_nil)
      (pss_cons (ps_set (i := 2) sc_needA.nd rfl (Or.inl rfl) pe_dnewT)
      (pss_one (ps_for PassesOwn.never rfl (pi_enum (by rfl) C.enum (pa_cons (pv 1) pa_nil)) (pg_tup rfl (pgs_cons (pg_name (i := 3) sc_needA.nd rfl (Or.inl rfl)) (pgs_cons (pg_name (i := 4) sc_needA.nd rfl (Or.inl rfl)) pgs_nil))) pss_any)))), ?_⟩
    refine ⟨_, rfl, _, 1, 5, rfl, .inl ⟨1, rfl, _, rfl, iteF ?_⟩⟩
    refine ⟨_, rfl, a, rfl, ha, fun H1 s1 => ⟨_, rfl, iteF ?_⟩⟩
    refine fun D hD => ?_
    have sD : Same H (upd H1 D (.dT [])) := s1.put (s1.free hD)
    refine ⟨_, rfl, a, [], rfl, SqL.of (sD _ _ ha), ?_⟩
    refine for_it (tb := fun _ _ _ => False) (walk_enum (K := K) (xs := [])) (fun i σ H2 => H2 = upd H1 D (.dT [])) rfl (fun i σ H2 _ h => by rw [h]; exact SqL.of (K := K) (sD _ _ ha)) (fun i x σ H2 H3 hi => absurd hi (Nat.not_lt_zero _)) ?_
    rintro σ H2 rfl
    exact k _ sD
def spPlan0 (K : PySem.W.Frag) : Sp := fun vs H Q _ => ∃ (x dx a : Addr), vs = [.ref x, .int 1, .ref a] ∧ H x = some (.ins (cP K) dx []) ∧ H a = some (.lst []) ∧ ∀ H', (∀ b o, b ≠ x → H b = some o → H' b = some o) → Plan0 K H' x → Q .non H'
theorem sc_pInit : FnScope ["self", "switches", "arrows"] ["self", "switches", "arrows"] (defScope (pst 0)) := ⟨rfl, rfl, rfl, by decide +kernel, rfl, by decide +kernel, by decide +kernel⟩
theorem ok_pInit (T : TxP P K mg) (C : TxC P K mg) : ∃ fd, FnOk P w K mg base CX0 4 (He.ma K (cP K) "__init__") fd ["self", "switches", "arrows"] (spPlan0 K) ∧ Binds K fd ["self", "switches", "arrows"] [] := by
  have GA : Fnc P w K mg base CX0 3 "need_arrows" ["switches", "arrows"] spNeedA0 := ok_needA T C
  obtain ⟨fd, F⟩ := C.pInit
  refine ⟨fd, F.ok (k := 3) sc_pInit (fun vs H Q E h => ?_) (fun cdv A outer s H vs Q E hr h => ?_), F.bindsN (fun _ _ _ _ _ _ us hl => match us, hl with | [_, _, _], _ => rfl)⟩
  · obtain ⟨x, dx, a, rfl, _⟩ := h
    rfl
  · obtain ⟨x, dx, a, rfl, hx, ha, k⟩ := h
    refine ⟨_, PSs.nox (pss_cons (ps_expr (pe_fn GA hr pass0 (pa_cons (pv 1) (pa_cons (pv 2) pa_nil))))
      (pss_cons (ps_fld (pv 0) (pv 1) rfl)
      (pss_one (ps_fld (pv 0) (pe_callTy call_tuple_of (by rfl) T.b_tuple (by decide +kernel) (pa_cons (pe_callB (cr_sortA hr.units) (by rfl) C.sorted (by decide +kernel) (pa_cons (pv 2) pa_nil)) pa_nil)) rfl)))), ?_⟩
    refine ⟨_, rfl, _, rfl, a, rfl, ha, fun H1 s1 => ?_⟩
    have hx1 := s1 _ _ hx
    have ha1 := s1 _ _ ha
    have ax : a ≠ x := ne_of ha hx (by intro z; cases z)
    refine ⟨_, rfl, _, rfl, x, _, dx, _, rfl, hx1, C.pCls, C.pS, by decide, ?_⟩
    refine ⟨_, rfl, a, [], [], rfl, SqL.of (by rw [upd_ne ax]; exact ha1), .nil, fun p ys hp hys => ?_⟩
    have hys0 : ys = [] := by
      have := hys.length
      rw [List.mergeSort_nil, List.length_nil] at this
      exact List.length_eq_zero_iff.mp this
    subst hys0
    refine ⟨p, [], rfl, .inl ⟨SqL.of upd_same, fun t ht => ?_⟩⟩
    have px : x ≠ p := ne_of_none (upd_same (H := H1)) hp
    have ht1 := (Same.upd hp).free ht
    have tx : x ≠ t := ne_of_none (upd_same (H := H1)) ht1
    have e : (upd (upd (upd H1 x (.ins (cP K) dx (putF "own_switches" (.int 1) []))) p (.lst [])) t (.tup [])) x = some (.ins (cP K) dx (putF "own_switches" (.int 1) [])) := by
      rw [upd_ne tx, upd_ne px, upd_same]
    refine ⟨_, rfl, x, _, dx, _, rfl, e, C.pCls, C.pA, Nat.lt_of_le_of_lt (show _ ≤ 1 from Nat.le_refl _) (by decide), ?_⟩
    have hp1 : H1 p = none := by rw [← hp, upd_ne (Ne.symm px)]
    have ht0 : H1 t = none := by rw [← ht1, upd_ne (Ne.symm tx)]
    refine k _ (fun b o hb e => ?_) ⟨dx, t, ?_, ?_⟩
    · have e1 := s1 _ _ e
      rw [upd_ne hb, upd_ne (ne_of_none e1 ht0), upd_ne (ne_of_none e1 hp1), upd_ne hb]
      exact e1
    · rw [upd_same]
      rfl
    · rw [upd_ne (Ne.symm tx), upd_same]
end
end K5
set_option maxHeartbeats 4000000
namespace K5
open PySem L2 PySem.EX PyProof.Rows
theorem pt_any {X : Cx} {e : Expr} : PT X e (fun _ _ _ => False) := ⟨fun _ _ _ _ _ _ h => h.elim⟩
theorem pe_any {X : Cx} {e : Expr} : PE X e (fun _ _ _ => False) := ⟨fun _ _ _ _ _ _ h => h.elim⟩
section
variable {P : Program} {w : World} {K : PySem.W.Frag} {mg : Str → Option Value} {base : Heap}
/-! ### the book -/
/-- all but what lies at x stays -/
def Kept (x : Addr) (H H' : Hp) : Prop := ∀ b o, b ≠ x → H b = some o → H' b = some o
def spBInit (K : PySem.W.Frag) : Sp := fun vs H Q E => ∃ (x dx : Addr) (v : V), vs = [.ref x, v] ∧ H x = some (.ins (cB K) dx []) ∧ ((Odd v ∧ XO (He.ga K "BadNumber") .part (.str "switches") H E) ∨ (v = .int 1 ∧ ∀ H', Kept x H H' → Book0 K H' x → Q .non H'))
theorem sc_bInit : FnScope ["self", "switches"] ["self", "switches"] (defScope (bst 0)) := ⟨rfl, rfl, rfl, by decide +kernel, rfl, by decide +kernel, by decide +kernel⟩
theorem ok_bInit (T : TxP P K mg) (C : TxC P K mg) : ∃ fd, FnOk P w K mg base (L2.CX P w) 6 (He.ma K (cB K) "__init__") fd ["self", "switches"] (spBInit K) ∧ Binds K fd ["self", "switches"] [] := by
  have GB : Fnc P w K mg base CX0 2 "is_between" ["thing", "low", "high"] spBtwO := ok_is_between T
  obtain ⟨fp, FP, hbP⟩ := ok_pInit (P := P) (w := w) (base := base) T C
  obtain ⟨fd, F⟩ := C.bInit
  obtain ⟨tm, hm⟩ := T.MOST_SWITCHES
  refine ⟨fd, F.ok (k := 5) sc_bInit (fun vs H Q E h => ?_) (fun cdv A outer s H vs Q E hr h => ?_), F.bindsN (fun _ _ _ _ _ _ us hl => match us, hl with | [_, _], _ => rfl)⟩
  · obtain ⟨x, dx, v, rfl, _⟩ := h
    rfl
  · obtain ⟨x, dx, v, rfl, hx, h⟩ := h
    refine ⟨_, pss_cons (ps_if (pt_not (pt_val (pe_fn GB (hr.mono (by decide)) pass0 (pa_cons (pv 1) (pa_cons pe_int (pa_cons (pe_glob (v := .int 5) (by rfl) hm ⟨_, rfl⟩) pa_nil)))))) (pss_one (ps_raisePC rfl T.badNum hr (takes_of rfl rfl rfl rfl) (pa_cons pe_str pa_nil))) pss_nil)
      (pss_cons (ps_fld (pv 0) (pe_lst (pa_cons (pe_make (E := E0) C.pMk FP hr (by rfl) C.pGlo hbP .nil pass0 (pa_cons (pv 1) (pa_cons (pe_lst pa_nil) pa_nil))) pa_nil)) rfl)
      (pss_cons (ps_fld (pv 0) (pe_lst pa_nil) rfl)
      (pss_one (ps_fld (pv 0) (pe_lst pa_nil) rfl)))), ?_⟩
    rcases h with ⟨o, xo⟩ | ⟨rfl, k⟩
    · exact ⟨_, rfl, ⟨_, _, _, rfl, .inr ⟨o, by decide, by decide, _, rfl, iteT ⟨_, rfl, fun d hd => xo.go same_refl hd⟩⟩⟩⟩
    · refine ⟨_, rfl, _, 1, 5, rfl, .inl ⟨1, rfl, _, rfl, iteF ?_⟩⟩
      refine ⟨_, rfl, by decide, fun l hl => fun x1 dx1 hx1 hdx1 hne => ?_⟩
      have xl : x ≠ l := ne_of_none hx hl
      have e1 : (upd H l (.lst [])) x = some (.ins (cB K) dx []) := by rw [upd_ne xl, hx]
      have xx1 : x ≠ x1 := ne_of_none e1 hx1
      have xdx1 : x ≠ dx1 := ne_of_none e1 hdx1
      have ll : (upd H l (.lst [])) l = some (.lst []) := upd_same
      have lx1 : l ≠ x1 := ne_of_none ll hx1
      have ldx1 : l ≠ dx1 := ne_of_none ll hdx1
      refine ⟨x1, dx1, l, rfl, upd_same, by rw [upd_ne lx1, upd_ne ldx1]; exact ll, fun H1 kp p0 => ⟨rfl, ?_⟩⟩
      have hxx : H1 x = some (.ins (cB K) dx []) := kp _ _ xx1 (by rw [upd_ne xx1, upd_ne xdx1]; exact e1)
      have k1 : ∀ b o, b ≠ x → H b = some o → H1 b = some o := fun b o hb e => by
        have eb : (upd H l (.lst [])) b = some o := by rw [upd_ne (ne_of_none e hl)]; exact e
        exact kp _ _ (ne_of_none eb hx1) (by rw [upd_ne (ne_of_none eb hx1), upd_ne (ne_of_none eb hdx1)]; exact eb)
      refine ⟨(by show 1 ≤ sizeLine; decide), fun l1 hl1 => ?_⟩
      have x_l1 : x ≠ l1 := ne_of_none hxx hl1
      refine ⟨_, rfl, x, _, dx, _, rfl, by rw [upd_ne x_l1]; exact hxx, C.bCls, C.bP, by decide, ?_⟩
      refine ⟨by decide, fun l2 hl2 => ?_⟩
      have x_l2 : x ≠ l2 := ne_of_none upd_same hl2
      refine ⟨_, rfl, x, _, dx, _, rfl, by rw [upd_ne x_l2, upd_same], C.bCls, C.bD, Nat.lt_of_le_of_lt (show _ ≤ 1 from Nat.le_refl _) (by decide), ?_⟩
      refine ⟨by decide, fun l3 hl3 => ?_⟩
      have x_l3 : x ≠ l3 := ne_of_none upd_same hl3
      refine ⟨_, rfl, x, _, dx, _, rfl, by rw [upd_ne x_l3, upd_same], C.bCls, C.bL, Nat.lt_of_le_of_lt (show _ ≤ 2 from Nat.le_refl _) (by decide), ?_⟩
      have hl2' : (upd H1 l1 (.lst [.ref x1])) l2 = none := by rw [← hl2, upd_ne x_l2.symm]
      have hl3' : (upd (upd H1 l1 (.lst [.ref x1])) l2 (.lst [])) l3 = none := by
        by_cases z : l3 = l2
        · rw [z, upd_ne x_l2.symm, upd_same] at hl3
          cases hl3
        · rw [upd_ne x_l3.symm, upd_ne z, upd_ne x_l3.symm] at hl3
          rw [upd_ne z]
          exact hl3
      have l1_2 : l1 ≠ l2 := ne_of_none upd_same hl2'
      have l1_3 : l1 ≠ l3 := ne_of_none (by rw [upd_ne l1_2, upd_same]) hl3'
      have l2_3 : l2 ≠ l3 := ne_of_none upd_same hl3'
      have s3 : Same H1 (upd (upd (upd H1 l1 (.lst [.ref x1])) l2 (.lst [])) l3 (.lst [])) := ((Same.upd hl1).trans (Same.upd hl2')).trans (Same.upd hl3')
      refine k _ ?_ ⟨dx, l1, l2, l3, x1, ?_, ?_, ?_, ?_, ?_⟩
      · intro b o hb e
        have e1 := k1 b o hb e
        have n1 := ne_of_none e1 hl1
        have e2 : (upd H1 l1 (.lst [.ref x1])) b = some o := by rw [upd_ne n1]; exact e1
        have n2 := ne_of_none e2 hl2'
        have e3 : (upd (upd H1 l1 (.lst [.ref x1])) l2 (.lst [])) b = some o := by rw [upd_ne n2]; exact e2
        have n3 := ne_of_none e3 hl3'
        rw [upd_ne hb, upd_ne n3, upd_ne hb, upd_ne n2, upd_ne hb, upd_ne n1]
        exact e1
      · rw [upd_same]
        rfl
      · rw [upd_ne x_l1.symm, upd_ne l1_3, upd_ne x_l1.symm, upd_ne l1_2, upd_ne x_l1.symm, upd_same]
      · rw [upd_ne x_l2.symm, upd_ne l2_3, upd_ne x_l2.symm, upd_same]
      · rw [upd_ne x_l3.symm, upd_same]
      · obtain ⟨dp, tp, h1, h2⟩ := p0
        have xp : x1 ≠ x := fun z => by
          rw [z] at hx1
          rw [e1] at hx1
          cases hx1
        have g : ∀ b o, b ≠ x → H1 b = some o → (upd (upd (upd (upd (upd (upd H1 l1 (.lst [.ref x1])) x (.ins (cB K) dx (putF "own_plans" (.ref l1) []))) l2 (.lst [])) x (.ins (cB K) dx (putF "own_deeds" (.ref l2) (putF "own_plans" (.ref l1) [])))) l3 (.lst [])) x (.ins (cB K) dx (putF "own_later" (.ref l3) (putF "own_deeds" (.ref l2) (putF "own_plans" (.ref l1) []))))) b = some o := fun b o hb e1 => by
          have n1 := ne_of_none e1 hl1
          have e2 : (upd H1 l1 (.lst [.ref x1])) b = some o := by rw [upd_ne n1]; exact e1
          have n2 := ne_of_none e2 hl2'
          have e3 : (upd (upd H1 l1 (.lst [.ref x1])) l2 (.lst [])) b = some o := by rw [upd_ne n2]; exact e2
          have n3 := ne_of_none e3 hl3'
          rw [upd_ne hb, upd_ne n3, upd_ne hb, upd_ne n2, upd_ne hb, upd_ne n1]
          exact e1
        refine ⟨dp, tp, g _ _ xp h1, g _ _ (fun z => ?_) h2⟩
        rw [z, hxx] at h2
        cases h2
end
end K5
set_option maxHeartbeats 4000000
namespace K5
open PySem L2 PySem.EX PyProof.Rows
section
variable {P : Program} {w : World} {K : PySem.W.Frag} {mg : Str → Option Value} {base : Heap}
/-! ### the book's properties -/
structure PrB (P : Program) (w : World) (K : PySem.W.Frag) (mg : Str → Option Value) (base : Heap) (C : Addr) (k : Nat) (f : Str) (sp : Sp) : Prop where
  ex : ∃ p g fd, PropOf K C f p g ∧ FnOk P w K mg base CX0 k g fd ["self"] sp ∧ Binds K fd ["self"] []
theorem pe_prb {X : Cx} {e : Expr} {ta : TE} {f : Str} {sp : Sp} {C : Addr} {k : Nat} {pos : Pos} (he : PE X e ta) (c : Cls X.K C) (R : PrB X.prog X.w X.K X.mg X.base C k f sp) (hr : Room (k + 1) X.A) (hab : attributeBase e f X.env (eval e X.env) = eval e X.env := by rfl) :
    PE X (.Attribute e f pos) (tProp C sp [] E0 ta) := by
  obtain ⟨p, g, fd, hp, F, b⟩ := R.ex
  exact pe_prop he c hp F hr b .nil pass0 hab
def spPsw (K : PySem.W.Frag) : Sp := fun vs H Q _ => ∃ a, vs = [.ref a] ∧ Plan0 K H a ∧ Q (.int 1) H
theorem sc_pSw : FnScope ["self"] ["self"] (defScope (pst 1)) := ⟨rfl, rfl, rfl, by decide +kernel, rfl, by decide +kernel, by decide +kernel⟩
theorem pr_psw (C : TxC P K mg) : PrB P w K mg base (cP K) 1 "switches" (spPsw K) := by
  obtain ⟨p, g, fd, hp, F⟩ := C.pSw
  refine ⟨p, g, fd, hp, F.ok (k := 0) sc_pSw (fun vs H Q E h => ?_) (fun cdv A outer s H vs Q E hr h => ?_), F.bindsN (fun _ _ _ _ _ _ us hl => match us, hl with | [_], _ => rfl)⟩
  · obtain ⟨a, rfl, _⟩ := h
    rfl
  · obtain ⟨a, rfl, ⟨dx, t, h1, h2⟩, k⟩ := h
    refine ⟨_, PSs.nox (pss_one (ps_ret (pe_fld (pv 0) rfl))), ?_⟩
    exact ⟨_, rfl, a, _, dx, _, _, rfl, h1, C.pCls, C.pS, rfl, k⟩
def spBpl (K : PySem.W.Frag) : Sp := fun vs H Q _ => ∃ b, vs = [.ref b] ∧ Book0 K H b ∧ ∀ x, Plan0 K H x → Q (.ref x) H
theorem sc_bPl : FnScope ["self"] ["self"] (defScope (bst 2)) := ⟨rfl, rfl, rfl, by decide +kernel, rfl, by decide +kernel, by decide +kernel⟩
theorem pr_bpl (C : TxC P K mg) : PrB P w K mg base (cB K) 1 "plan" (spBpl K) := by
  obtain ⟨p, g, fd, hp, F⟩ := C.bPl
  refine ⟨p, g, fd, hp, F.ok (k := 0) sc_bPl (fun vs H Q E h => ?_) (fun cdv A outer s H vs Q E hr h => ?_), F.bindsN (fun _ _ _ _ _ _ us hl => match us, hl with | [_], _ => rfl)⟩
  · obtain ⟨a, rfl, _⟩ := h
    rfl
  · obtain ⟨b, rfl, ⟨dx, l1, l2, l3, x, h1, h2, h3, h4, h5⟩, k⟩ := h
    refine ⟨_, PSs.nox (pss_one (ps_ret (pe_ix ix_list (pe_fld (pv 0) rfl) (pe_un un_neg pe_int) (fun _ _ => rfl)))), ?_⟩
    refine ⟨_, rfl, b, _, dx, _, _, rfl, h1, C.bCls, C.bP, rfl, _, rfl, l1, [.ref x], -1, .ref x, rfl, rfl, SqL.of h2, by rfl, k x h5⟩
def spBsw (K : PySem.W.Frag) : Sp := fun vs H Q _ => ∃ b, vs = [.ref b] ∧ Book0 K H b ∧ Q (.int 1) H
theorem sc_bSw : FnScope ["self"] ["self"] (defScope (bst 1)) := ⟨rfl, rfl, rfl, by decide +kernel, rfl, by decide +kernel, by decide +kernel⟩
theorem pr_bsw (C : TxC P K mg) : PrB P w K mg base (cB K) 3 "switches" (spBsw K) := by
  have R : PrB P w K mg base (cP K) 1 "switches" (spPsw K) := pr_psw C
  obtain ⟨p, g, fd, hp, F⟩ := C.bSw
  refine ⟨p, g, fd, hp, F.ok (k := 2) sc_bSw (fun vs H Q E h => ?_) (fun cdv A outer s H vs Q E hr h => ?_), F.bindsN (fun _ _ _ _ _ _ us hl => match us, hl with | [_], _ => rfl)⟩
  · obtain ⟨a, rfl, _⟩ := h
    rfl
  · obtain ⟨b, rfl, ⟨dx, l1, l2, l3, x, h1, h2, h3, h4, h5⟩, k⟩ := h
    refine ⟨_, PSs.nox (pss_one (ps_ret (pe_prb (pe_ix (r := rIxL K) ix_list (pe_fld (pv 0) rfl) pe_int (fun _ _ => rfl)) C.pCls R hr))), ?_⟩
    have h5' := h5
    obtain ⟨dp, t, hp1, hp2⟩ := h5'
    exact ⟨_, rfl, b, _, dx, _, _, rfl, h1, C.bCls, C.bP, rfl, l1, [.ref x], 0, .ref x, rfl, rfl, SqL.of h2, atI_int (by decide) rfl, x, dp, _, rfl, hp1, x, rfl, h5, k⟩
/-! ### deeds that are none -/
def spDeed : Sp := fun vs H Q _ => ∃ x v, vs = [x, v] ∧ Odd v ∧ Q (.bl false) H
theorem sc_deedRight : FnScope ["plan", "deed"] ["plan", "deed"] (defScope (top 111)) := ⟨rfl, rfl, rfl, by decide +kernel, rfl, by decide +kernel, by decide +kernel⟩
theorem ok_deedRight (T : TxP P K mg) (C : TxC P K mg) : Fnc P w K mg base CX0 1 "deed_right" ["plan", "deed"] spDeed := by
  refine fnc0 C.deedRight sc_deedRight (fun vs H Q E h => ?_) (fun _ _ _ _ _ _ us hl => match us, hl with | [_, _], _ => rfl) (fun cdv A outer s H vs Q E hr h => ?_)
  · obtain ⟨x, v, rfl, _⟩ := h
    rfl
  · obtain ⟨x, v, rfl, o, k⟩ := h
    refine ⟨_, pss_cons (ps_if (PW.pt (pw_or (pt_not (pt_val (pe_callB call_isi (by rfl) T.b_isinstance (by decide +kernel) (pa_cons (pv 1) (pa_cons (pe_tyN (n := "tuple") T.b_tuple (by rfl) (by decide +kernel)) pa_nil)))))
      (pw_or (pt_any) (pw_or (pt_any) (pw_or1 (pt_any)))))) (pss_one (ps_ret pe_bl)) pss_nil) pss_any, ?_⟩
    obtain ⟨ty, h1, h2⟩ := o.ty (K := K) (H := H)
    exact ⟨_, rfl, v, .ty "tuple", _, _, false, rfl, .ty _, h1, h2, _, rfl, iteT (iteT k)⟩
/-! ### methods -/
def spEdit (K : PySem.W.Frag) : Sp := fun vs H Q E => ∃ b v, vs = [.ref b, v] ∧ Odd v ∧ Book0 K H b ∧ XOO (He.ga K "BadEdit") H E
theorem sc_do : FnScope ["self", "deed"] ["self", "deed"] (defScope (bst 3)) := ⟨rfl, rfl, rfl, by decide +kernel, rfl, by decide +kernel, by decide +kernel⟩
theorem ok_do (T : TxP P K mg) (C : TxC P K mg) : ∃ fd, FnOk P w K mg base (L2.CX P w) 3 (He.ma K (cB K) "do") fd ["self", "deed"] (spEdit K) ∧ Binds K fd ["self", "deed"] [] := by
  have G : Fnc P w K mg base CX0 1 "deed_right" ["plan", "deed"] spDeed := ok_deedRight T C
  have R : PrB P w K mg base (cB K) 1 "plan" (spBpl K) := pr_bpl C
  obtain ⟨fd, F⟩ := C.fDo
  refine ⟨fd, F.ok (k := 2) sc_do (fun vs H Q E h => ?_) (fun cdv A outer s H vs Q E hr h => ?_), F.bindsN (fun _ _ _ _ _ _ us hl => match us, hl with | [_, _], _ => rfl)⟩
  · obtain ⟨b, v, rfl, _⟩ := h
    rfl
  · obtain ⟨b, v, rfl, o, B, x⟩ := h
    refine ⟨_, pss_cons (ps_if (pt_not (pt_val (pe_fn G (hr.mono (by decide)) pass0 (pa_cons (pe_prb (pv 0) C.bCls R hr) (pa_cons (pv 1) pa_nil))))) (pss_one (ps_raiseO rfl T.o_BadEdit (takes_of rfl rfl rfl rfl))) pss_nil) pss_any, ?_⟩
    have B' := B
    obtain ⟨dx, l1, l2, l3, x0, h1, _⟩ := B'
    exact ⟨_, rfl, b, dx, _, rfl, h1, b, rfl, B, fun x1 _ => ⟨_, rfl, _, _, rfl, o, _, rfl, iteT (x H same_refl)⟩⟩
theorem sc_most : FnScope ["self", "deed"] ["self", "deed"] (defScope (bst 11)) := ⟨rfl, rfl, rfl, by decide +kernel, rfl, by decide +kernel, by decide +kernel⟩
theorem ok_mostB (T : TxP P K mg) (C : TxC P K mg) : ∃ fd, FnOk P w K mg base (L2.CX P w) 3 (He.ma K (cB K) "most_behind") fd ["self", "deed"] (spEdit K) ∧ Binds K fd ["self", "deed"] [] := by
  have G : Fnc P w K mg base CX0 1 "deed_right" ["plan", "deed"] spDeed := ok_deedRight T C
  have R : PrB P w K mg base (cB K) 1 "plan" (spBpl K) := pr_bpl C
  obtain ⟨fd, F⟩ := C.fMost
  refine ⟨fd, F.ok (k := 2) sc_most (fun vs H Q E h => ?_) (fun cdv A outer s H vs Q E hr h => ?_), F.bindsN (fun _ _ _ _ _ _ us hl => match us, hl with | [_, _], _ => rfl)⟩
  · obtain ⟨b, v, rfl, _⟩ := h
    rfl
  · obtain ⟨b, v, rfl, o, B, x⟩ := h
    refine ⟨_, pss_cons (ps_if (pt_not (pt_val (pe_fn G (hr.mono (by decide)) pass0 (pa_cons (pe_prb (pv 0) C.bCls R hr) (pa_cons (pv 1) pa_nil))))) (pss_one (ps_raiseO rfl T.o_BadEdit (takes_of rfl rfl rfl rfl))) pss_nil) pss_any, ?_⟩
    have B' := B
    obtain ⟨dx, l1, l2, l3, x0, h1, _⟩ := B'
    exact ⟨_, rfl, b, dx, _, rfl, h1, b, rfl, B, fun x1 _ => ⟨_, rfl, _, _, rfl, o, _, rfl, iteT (x H same_refl)⟩⟩
/-- the state (0,) -/
def State0 (K : PySem.W.Frag) (H : Hp) (v : V) : Prop := ∃ a, v = .ref a ∧ TyX K H (.ref a) (.type "tuple") ∧ SqT K H a [.int 0]
def spLets (K : PySem.W.Frag) : Sp := fun vs H Q E => ∃ b u v, vs = [.ref b, u, v] ∧ (Odd u ∨ (State0 K H u ∧ Odd v)) ∧ Book0 K H b ∧ XOO (He.ga K "BadEdit") H E
theorem sc_lets : FnScope ["self", "one", "other"] ["self", "one", "other"] (defScope (bst 9)) := ⟨rfl, rfl, rfl, by decide +kernel, rfl, by decide +kernel, by decide +kernel⟩
theorem ok_lets (T : TxP P K mg) (C : TxC P K mg) : ∃ fd, FnOk P w K mg base (L2.CX P w) 5 (He.ma K (cB K) "lets") fd ["self", "one", "other"] (spLets K) ∧ Binds K fd ["self", "one", "other"] [] := by
  have G : Fnc P w K mg base CX0 4 "is_state" ["many", "thing"] (spState K) := ok_is_state T
  have R : PrB P w K mg base (cB K) 3 "switches" (spBsw K) := pr_bsw C
  obtain ⟨fd, F⟩ := C.fLets
  refine ⟨fd, F.ok (k := 4) sc_lets (fun vs H Q E h => ?_) (fun cdv A outer s H vs Q E hr h => ?_), F.bindsN (fun _ _ _ _ _ _ us hl => match us, hl with | [_, _, _], _ => rfl)⟩
  · obtain ⟨b, u, v, rfl, _⟩ := h
    rfl
  · obtain ⟨b, u, v, rfl, h, B, x⟩ := h
    refine ⟨_, pss_cons (ps_if (PW.pt (pw_or (pt_not (pt_val (pe_fn G hr pass0 (pa_cons (pe_prb (pv 0) C.bCls R hr) (pa_cons (pv 1) pa_nil)))))
      (pw_or1 (pt_not (pt_val (pe_fn G hr pass0 (pa_cons (pe_prb (pv 0) C.bCls R hr) (pa_cons (pv 2) pa_nil)))))))) (pss_one (ps_raiseO rfl T.o_BadEdit (takes_of rfl rfl rfl rfl))) pss_nil) pss_any, ?_⟩
    have B' := B
    obtain ⟨dx, l1, l2, l3, x0, h1, _⟩ := B'
    refine ⟨_, rfl, b, dx, _, rfl, h1, b, rfl, B, ?_⟩
    rcases h with o | ⟨⟨a, rfl, h2, h3⟩, o⟩
    · exact ⟨_, rfl, 1, _, rfl, Odd.notT o ⟨_, rfl, iteT (iteT (x H same_refl))⟩⟩
    · refine ⟨_, rfl, 1, _, rfl, _, _, _, _, rfl, .inr ⟨a, [0], rfl, h2, h3, rfl, by decide, fun n hn => ?_, fun H1 s1 => ⟨_, rfl, iteF ?_⟩⟩⟩
      · cases List.mem_singleton.mp hn
        exact ⟨by decide, by decide⟩
      · refine ⟨_, rfl, b, dx, _, rfl, s1 _ _ h1, b, rfl, B.same s1, ?_⟩
        exact ⟨_, rfl, 1, _, rfl, Odd.notT o ⟨_, rfl, iteT (x H1 s1)⟩⟩
def spUndo (K : PySem.W.Frag) (n : Str) : Sp := fun vs H Q E => ∃ b, vs = [.ref b] ∧ Book0 K H b ∧ XOO (He.ga K n) H E
theorem sc_undo : FnScope ["self"] ["self"] (defScope (bst 4)) := ⟨rfl, rfl, rfl, by decide +kernel, rfl, by decide +kernel, by decide +kernel⟩
theorem ok_undo (T : TxP P K mg) (C : TxC P K mg) : ∃ fd, FnOk P w K mg base (L2.CX P w) 1 (He.ma K (cB K) "undo") fd ["self"] (spUndo K "NothingDone") ∧ Binds K fd ["self"] [] := by
  obtain ⟨fd, F⟩ := C.fUndo
  refine ⟨fd, F.ok (k := 0) sc_undo (fun vs H Q E h => ?_) (fun cdv A outer s H vs Q E hr h => ?_), F.bindsN (fun _ _ _ _ _ _ us hl => match us, hl with | [_], _ => rfl)⟩
  · obtain ⟨b, rfl, _⟩ := h
    rfl
  · obtain ⟨b, rfl, ⟨dx, l1, l2, l3, x0, h1, h2, h3, h4, h5⟩, x⟩ := h
    refine ⟨_, pss_cons (ps_if (pt_cmpR (op_eqD hr.units) (pe_fld (pv 0) rfl) (pe_lst pa_nil) (nomark _)) (pss_one (ps_raiseO rfl T.o_NothingDone (takes_of rfl rfl rfl rfl))) pss_nil) pss_any, ?_⟩
    refine ⟨_, rfl, b, _, dx, _, _, rfl, h1, C.bCls, C.bD, rfl, by decide, fun e he => ⟨_, _, dp_nil (SqL.of ((Same.upd he) _ _ h3)), dp_nil (SqL.of upd_same), shaped_nil, shaped_nil, _, rfl, ?_⟩⟩
    rw [eqv_nilL]
    exact iteT (x _ (Same.upd he))
theorem sc_redo : FnScope ["self", "deed", "plan"] ["self"] (defScope (bst 5)) := ⟨rfl, rfl, rfl, by decide +kernel, rfl, by decide +kernel, by decide +kernel⟩
theorem ok_redo (T : TxP P K mg) (C : TxC P K mg) : ∃ fd, FnOk P w K mg base (L2.CX P w) 1 (He.ma K (cB K) "redo") fd ["self"] (spUndo K "NothingUndone") ∧ Binds K fd ["self"] [] := by
  obtain ⟨fd, F⟩ := C.fRedo
  refine ⟨fd, F.ok (k := 0) sc_redo (fun vs H Q E h => ?_) (fun cdv A outer s H vs Q E hr h => ?_), F.bindsN (fun _ _ _ _ _ _ us hl => match us, hl with | [_], _ => rfl)⟩
  · obtain ⟨b, rfl, _⟩ := h
    rfl
  · obtain ⟨b, rfl, ⟨dx, l1, l2, l3, x0, h1, h2, h3, h4, h5⟩, x⟩ := h
    refine ⟨_, pss_cons (ps_if (pt_cmpR (op_eqD hr.units) (pe_fld (pv 0) rfl) (pe_lst pa_nil) (nomark _)) (pss_one (ps_raiseO rfl T.o_NothingUndone (takes_of rfl rfl rfl rfl))) pss_nil) pss_any, ?_⟩
    refine ⟨_, rfl, b, _, dx, _, _, rfl, h1, C.bCls, C.bL, rfl, by decide, fun e he => ⟨_, _, dp_nil (SqL.of ((Same.upd he) _ _ h4)), dp_nil (SqL.of upd_same), shaped_nil, shaped_nil, _, rfl, ?_⟩⟩
    rw [eqv_nilL]
    exact iteT (x _ (Same.upd he))
def spPbT (K : PySem.W.Frag) : Sp := fun vs H Q E => ∃ v, vs = [v] ∧ Odd v ∧ XOO (He.ga K "NoPlanbook") H E
theorem sc_pbText : FnScope ["book", "deed"] ["book"] (defScope (top 117)) := ⟨rfl, rfl, rfl, by decide +kernel, rfl, by decide +kernel, by decide +kernel⟩
theorem ok_pbText (T : TxP P K mg) (C : TxC P K mg) : Fnc P w K mg base (L2.CX P w) 1 "planbook_text" ["book"] (spPbT K) := by
  refine fnc C.pbText sc_pbText (fun vs H Q E h => ?_) (fun _ _ _ _ _ _ us hl => match us, hl with | [_], _ => rfl) (fun cdv A outer s H vs Q E hr h => ?_)
  · obtain ⟨v, rfl, _⟩ := h
    rfl
  · obtain ⟨v, rfl, o, x⟩ := h
    refine ⟨_, pss_cons (ps_if (pt_not (pt_val (pe_callB call_isi (by rfl) T.b_isinstance (by decide +kernel) (pa_cons (pv 0) (pa_cons (pe_glob (v := .ref (cB K)) (by rfl) C.bGlo rfl) pa_nil))))) (pss_one (ps_raiseO rfl T.o_NoPlanbook (takes_of rfl rfl rfl rfl))) pss_nil) pss_any, ?_⟩
    have h : ∃ ty, TyX K H v ty ∧ PySem.W.kitOne K ty (.ref (cB K)) = some false := by
      cases o with
      | non => exact ⟨_, .base .non, C.nNone⟩
      | str x => exact ⟨_, .base (.str x), C.nStr⟩
      | int i h => exact ⟨_, .base (.int i), C.nInt⟩
    obtain ⟨ty, h1, h2⟩ := h
    exact ⟨_, rfl, v, .ref (cB K), _, _, false, rfl, .own _, h1, h2, _, rfl, iteT (x H same_refl)⟩
end
end K5
set_option maxHeartbeats 4000000
namespace K5
open PySem L2 PySem.EX PyProof.Rows
structure TxB (prog : Program) (K : PySem.W.Frag) (mg : Str → Option Value) : Prop where
  swIn : Def K mg "switches_in" (top 106)
  lines : Def K mg "lines_of" (top 107)
  dLine : Def K mg "deed_line" (top 116)
  deeds : Def K mg "deeds_of" (top 118)
  flips : Def K mg "flips_of" (top 119)
  readPb : Def K mg "read_planbook" (top 120)
  pAr : Pty K "Plan" "Plan.arrows" "arrows" (pst 2)
section
variable {P : Program} {w : World} {K : PySem.W.Frag} {mg : Str → Option Value} {base : Heap}
def nS1 (i : Int) : Str := Str.ofString (toString i)
/-- the deed at d: an arrow of the plan of one switch, or a flip -/
def DeedAt (H : Hp) (d : Addr) : Prop := (∃ (t : Str) (a : Addr) (s : Int), (t = "may" ∨ t = "not") ∧ H d = some (.tup [.str t, .ref a]) ∧ H a = some (.tup [.int 0, .int 0, .int s])) ∨ ∃ (a : Addr) (ns : List Int), H d = some (.tup [.str "flip", .ref a]) ∧ H a = some (.tup (ns.map V.int)) ∧ (ns = [] ∨ ns = [0])
def spDL : Sp := fun vs H Q _ => ∃ d, vs = [.ref d] ∧ DeedAt H d ∧ ∀ (x : Str) H', x ≠ "may" → Same H H' → Q (.str x) H'
theorem sc_dLine : FnScope ["deed", "source", "target", "sign", "switch"] ["deed"] (defScope (top 116)) := ⟨rfl, rfl, rfl, by decide +kernel, rfl, by decide +kernel, by decide +kernel⟩
theorem ok_dLine (T : TxP P K mg) (B : TxB P K mg) : Fnc P w K mg base CX0 1 "deed_line" ["deed"] spDL := by
  refine fnc0 B.dLine sc_dLine (fun vs H Q E h => ?_) (fun _ _ _ _ _ _ us hl => match us, hl with | [_], _ => rfl) (fun cdv A outer s H vs Q E hr h => ?_)
  · obtain ⟨d, rfl, _⟩ := h
    rfl
  · obtain ⟨d, rfl, h, k⟩ := h
    refine ⟨_, pss_cons (ps_if (pt_cmpR op_eq (pe_ix ix_tup (pv 0) pe_int (fun _ _ => rfl)) pe_str (nomark _)) (pss_one (ps_ret (pe_join pe_str (pe_lst (pa_cons pe_str
        (StX.pa_star (pe_lc (own := [("switch", 4)]) (g := gName 4) (tt := tYes) rfl sc_dLine.nd (pi_tup (pe_ix ix_tup (pv 0) pe_int (fun _ _ => rfl))) (blkOk_by (N := ["deed", "source", "target", "sign", "switch"]) (sc := defScope (top 116)) (by decide +kernel))
          (fun _ _ _ _ _ => pg_name (i := 4) sc_dLine.nd rfl (Or.inl rfl)) (fun _ _ _ _ _ => pts_nil) (fun _ _ _ _ _ => pe_callTy call_str_int (by rfl) T.b_str (by decide +kernel) (pa_cons (pv 4) pa_nil))) pa_nil)))))) pss_nil)
      (pss_cons (ps_asg (pe_ix ix_tup (pv 0) pe_int (fun _ _ => rfl)) (pg_tup rfl (pgs_cons (pg_name (i := 1) sc_dLine.nd rfl (Or.inl rfl)) (pgs_cons (pg_name (i := 2) sc_dLine.nd rfl (Or.inl rfl)) (pgs_cons (pg_name (i := 3) sc_dLine.nd rfl (Or.inl rfl)) pgs_nil)))))
      (pss_one (ps_ret (pe_join pe_str (pe_lst (pa_cons (pe_ix ix_tup (pv 0) pe_int (fun _ _ => rfl)) (pa_cons (pe_callTy call_str_int (by rfl) T.b_str (by decide +kernel) (pa_cons (pv 1) pa_nil))
        (pa_cons (pe_ifExp (pt_cmpR op_eq (pv 3) pe_int (nomark _)) pe_str pe_str) (pa_cons (pe_callTy call_str_int (by rfl) T.b_str (by decide +kernel) (pa_cons (pv 2) pa_nil)) pa_nil))))))))), ?_⟩
    rcases h with ⟨t, a, s1, ht, hd, ha⟩ | ⟨a, ns, hd, ha, hns⟩
    · refine ⟨_, rfl, d, _, (0 : Int), V.str t, rfl, rfl, SqT.of hd, rfl, rfl, _, rfl, ?_⟩
      rw [show decide (V.str t = V.str (Str.ofString "flip")) = false by rcases ht with rfl | rfl <;> decide +kernel]
      refine iteF ?_
      refine ⟨_, rfl, d, _, (1 : Int), V.ref a, rfl, rfl, SqT.of hd, rfl, ?_⟩
      refine ⟨a, _, rfl, SqT.of ha, rfl, _, _, rfl, _, _, rfl, _, _, rfl, rfl, ?_⟩
      refine ⟨⟨_, rfl⟩, ?_⟩
      refine ⟨_, rfl, d, _, (0 : Int), V.str t, rfl, rfl, SqT.of hd, rfl, ?_⟩
      refine ⟨_, rfl, 0, rfl, by decide +kernel, ?_⟩
      refine ⟨_, rfl, rfl, _, rfl, ?_⟩
      have l3 : 4 ≤ sizeLine := by decide
      rcases ht with rfl | rfl
      · refine ite2 (fun _ => ?_) (fun _ => ?_)
        · exact ⟨_, rfl, 0, rfl, by decide +kernel, l3, fun p hp => ⟨_, p, [Str.ofString "may", Str.ofString (toString (0 : Int)), Str.ofString "helps", Str.ofString (toString (0 : Int))], rfl, rfl, .inl (SqL.of upd_same), by decide +kernel, k _ _ (by decide +kernel) (Same.upd hp)⟩⟩
        · exact ⟨_, rfl, 0, rfl, by decide +kernel, l3, fun p hp => ⟨_, p, [Str.ofString "may", Str.ofString (toString (0 : Int)), Str.ofString "hinders", Str.ofString (toString (0 : Int))], rfl, rfl, .inl (SqL.of upd_same), by decide +kernel, k _ _ (by decide +kernel) (Same.upd hp)⟩⟩
      · refine ite2 (fun _ => ?_) (fun _ => ?_)
        · exact ⟨_, rfl, 0, rfl, by decide +kernel, l3, fun p hp => ⟨_, p, [Str.ofString "not", Str.ofString (toString (0 : Int)), Str.ofString "helps", Str.ofString (toString (0 : Int))], rfl, rfl, .inl (SqL.of upd_same), by decide +kernel, k _ _ (by decide +kernel) (Same.upd hp)⟩⟩
        · exact ⟨_, rfl, 0, rfl, by decide +kernel, l3, fun p hp => ⟨_, p, [Str.ofString "not", Str.ofString (toString (0 : Int)), Str.ofString "hinders", Str.ofString (toString (0 : Int))], rfl, rfl, .inl (SqL.of upd_same), by decide +kernel, k _ _ (by decide +kernel) (Same.upd hp)⟩⟩
    · refine ⟨_, rfl, d, _, (0 : Int), V.str (Str.ofString "flip"), rfl, rfl, SqT.of hd, rfl, rfl, _, rfl, ?_⟩
      rw [show decide (V.str (Str.ofString "flip") = V.str (Str.ofString "flip")) = true by decide +kernel]
      refine iteT ?_
      refine ⟨⟨_, rfl⟩, ?_⟩
      refine ⟨_, rfl, d, _, (1 : Int), V.ref a, rfl, rfl, SqT.of hd, rfl, ?_⟩
      refine ⟨a, rfl, ⟨_, SqT.of ha⟩, fun D hD => lc_tup (K := K) (a := a) (xs := ns.map V.int) (fun i H2 => Same H H2 ∧ H2 D = some (.lst ((ns.take i).map fun n => V.str (nS1 n)))) ⟨Same.upd hD, upd_same⟩ (fun i H2 _ h => SqT.of (h.1 _ _ ha)) ?_ ?_⟩
      · rintro i x H2 hx ⟨s2, hz⟩
        obtain ⟨z, hz1, rfl⟩ := map_get hx
        refine ⟨rfl, ?_⟩
        have hi := (List.getElem?_eq_some_iff.mp hz1).1
        have hl : ns.length ≤ 1 := by rcases hns with rfl | rfl <;> decide
        have hz0 : z = 0 := by
          rcases hns with rfl | rfl
          · cases hz1
          · exact List.mem_singleton.mp (List.mem_of_getElem? hz1)
        subst hz0
        refine ⟨_, rfl, 0, rfl, by decide +kernel, _, hz, small1000 (by rw [List.length_map, List.length_take]; omega), s2.put hD, ?_⟩
        rw [upd_same, List.take_succ, hz1, List.map_append]
        rfl
      · rintro H2 ⟨s2, hz⟩
        rw [List.length_map, List.take_of_length_le (Nat.le_refl _)] at hz
        rcases hns with rfl | rfl
        · exact ⟨D, _, rfl, .inr (SqL.of hz), by decide, fun p hp => ⟨_, p, [Str.ofString "flip"], rfl, rfl, .inl (SqL.of upd_same), by decide +kernel, k _ _ (by decide +kernel) (s2.trans (Same.upd hp))⟩⟩
        · exact ⟨D, _, rfl, .inr (SqL.of hz), by decide, fun p hp => ⟨_, p, [Str.ofString "flip", Str.ofString (toString (0 : Int))], rfl, rfl, .inl (SqL.of upd_same), by decide +kernel, k _ _ (by decide +kernel) (s2.trans (Same.upd hp))⟩⟩
end
end K5
set_option maxHeartbeats 4000000
namespace K5
open PySem L2 PySem.EX PyProof.Rows
def kMay : Key := .inr (Str.ofString "may")
theorem valV_cons {p : Key × V} {r : List (Key × V)} {j : Key} : valV (p :: r) j = if p.1 = j then some p.2 else valV r j := by
  unfold valV
  rw [List.find?_cons]
  by_cases h : p.1 = j
  · rw [if_pos h, decide_eq_true h]; rfl
  · rw [if_neg h, decide_eq_false h]
theorem valV_merge {j : Key} : ∀ {more kvs : List (Key × V)}, valV kvs j = none → valV more j = none → valV (mergeK kvs more) j = none
  | [], kvs, h, _ => h
  | p :: r, kvs, h, hm => by
    rw [valV_cons] at hm
    by_cases e : p.1 = j
    · rw [if_pos e] at hm; cases hm
    · rw [if_neg e] at hm
      refine valV_merge (more := r) (kvs := putK kvs p.1 p.2) ?_ hm
      rw [valV_put, if_neg (fun z => e z.symm)]
      exact h
theorem shaped_non : SeqAt.shaped (.tuple []) = true := by decide +kernel
theorem shaped_tri (i : Int) : SeqAt.shaped (.tuple [.int 0, .int 0, .int i]) = true := by
  refine shaped_of ?_ ?_
  · rw [PyData.canLay0]; rfl
  · rw [PyData.depth]; simp [PyData.depthAll, PyData.depth]
section
variable {P : Program} {w : World} {K : PySem.W.Frag} {mg : Str → Option Value} {base : Heap}
def spPar (K : PySem.W.Frag) : Sp := fun vs H Q _ => ∃ a, vs = [.ref a] ∧ Plan0 K H a ∧ ∀ t, H t = some (.tup []) → Q (.ref t) H
theorem sc_pAr : FnScope ["self"] ["self"] (defScope (pst 2)) := ⟨rfl, rfl, rfl, by decide +kernel, rfl, by decide +kernel, by decide +kernel⟩
theorem pr_par (C : TxC P K mg) (B : TxB P K mg) : PrB P w K mg base (cP K) 1 "arrows" (spPar K) := by
  obtain ⟨p, g, fd, hp, F⟩ := B.pAr
  refine ⟨p, g, fd, hp, F.ok (k := 0) sc_pAr (fun vs H Q E h => ?_) (fun cdv A outer s H vs Q E hr h => ?_), F.bindsN (fun _ _ _ _ _ _ us hl => match us, hl with | [_], _ => rfl)⟩
  · obtain ⟨a, rfl, _⟩ := h
    rfl
  · obtain ⟨a, rfl, ⟨dx, t, h1, h2⟩, k⟩ := h
    refine ⟨_, PSs.nox (pss_one (ps_ret (pe_fld (pv 0) rfl))), ?_⟩
    exact ⟨_, rfl, a, _, dx, _, _, rfl, h1, C.pCls, C.pA, rfl, k t h2⟩
/-- a dict of at most n texts, 'may' not one of them -/
def NoMay (H : Hp) (D : Addr) (n : Nat) : Prop := ∃ kvs : List (Key × V), H D = some (.dK kvs) ∧ kvs.length ≤ n ∧ valV kvs kMay = none
def spDeeds (K : PySem.W.Frag) : Sp := fun vs H Q _ => ∃ x, vs = [.ref x] ∧ Plan0 K H x ∧ ∀ D H', Same H H' → H D = none → NoMay H' D 1000 → Q (.ref D) H'
theorem NoMay.put {H : Hp} {D : Addr} {n : Nat} {x : Str} {v : V} (h : NoMay H D n) (hn : n < 1000) (hx : x ≠ Str.ofString "may") : ∃ H4, DPut H D (.str x) v H4 ∧ NoMay H4 D (n + 1) ∧ (∀ b, b ≠ D → H4 b = H b) := by
  obtain ⟨kvs, h1, h2, h3⟩ := h
  refine ⟨_, DPut.k (k := .inr x) h1 (small1000 (by omega)), ⟨_, upd_same, Nat.le_trans (length_putK _ _ _) (by omega), ?_⟩, fun b hb => upd_ne hb⟩
  rw [valV_put, if_neg (fun z => hx (by unfold kMay at z; exact (Sum.inr.inj z).symm))]
  exact h3
theorem sc_deeds : FnScope ["plan", "found", "source", "target", "sign", "arrow", "deed"] ["plan"] (defScope (top 118)) := ⟨rfl, rfl, rfl, by decide +kernel, rfl, by decide +kernel, by decide +kernel⟩
theorem ok_deeds (T : TxP P K mg) (C : TxC P K mg) (B : TxB P K mg) : Fnc P w K mg base CX0 3 "deeds_of" ["plan"] (spDeeds K) := by
  have G : Fnc P w K mg base CX0 1 "deed_line" ["deed"] spDL := ok_dLine T B
  have R : PrB P w K mg base (cP K) 1 "switches" (spPsw K) := pr_psw C
  have RA : PrB P w K mg base (cP K) 1 "arrows" (spPar K) := pr_par C B
  refine fnc0 B.deeds sc_deeds (fun vs H Q E h => ?_) (fun _ _ _ _ _ _ us hl => match us, hl with | [_], _ => rfl) (fun cdv A outer s H vs Q E hr h => ?_)
  · obtain ⟨x, rfl, _⟩ := h
    rfl
  · obtain ⟨x, rfl, p0, k⟩ := h
    refine ⟨_, pss_cons (ps_set (i := 1) sc_deeds.nd rfl (Or.inl rfl) pe_dnewK)
      (pss_cons (ps_for PassesOwn.never rfl (pi_range1 (by rfl) T.b_range (pa_cons (pe_prb (pv 0) C.pCls R hr) pa_nil)) (pg_name (i := 2) sc_deeds.nd rfl (Or.inl rfl))
        (pss_one (ps_for PassesOwn.never rfl (pi_range1 (by rfl) T.b_range (pa_cons (pe_prb (pv 0) C.pCls R hr) pa_nil)) (pg_name (i := 3) sc_deeds.nd rfl (Or.inl rfl))
          (pss_one (ps_for PassesOwn.never rfl (pi_tup (pe_tup (pa_cons (pe_un un_neg pe_int) (pa_cons pe_int pa_nil)))) (pg_name (i := 4) sc_deeds.nd rfl (Or.inl rfl))
            (pss_cons (ps_set (i := 5) sc_deeds.nd rfl (Or.inl rfl) (pe_tup (pa_cons (pv 2) (pa_cons (pv 3) (pa_cons (pv 4) pa_nil)))))
            (pss_cons (ps_set (i := 6) sc_deeds.nd rfl (Or.inl rfl) (pe_tup (pa_cons (pe_ifExp (pt_cmpR (op_inDT (by have := hr.un; show (Around.deeper _ _).units + 65 < cLine; omega)) (pv 5) (pe_prb (pv 0) C.pCls RA (hr.mono (by decide))) (by with_unfolding_all rfl)) pe_str pe_str) (pa_cons (pv 5) pa_nil))))
            (pss_one (ps_dput (Nat.lt_of_le_of_lt (Nat.add_le_add_left (by decide : 1 ≤ 64) _) hr.units) (pv 1) (pe_fn G (hr.mono (by decide)) pass0 (pa_cons (pv 6) pa_nil)) (pv 6) rfl)))))))))
      (pss_one (ps_ret (pv 1)))), ?_⟩
    have p0' := p0
    obtain ⟨dx, t, hx1, hx2⟩ := p0'
    refine fun D hD => ?_
    have sD : Same H (upd H D (.dK [])) := Same.upd hD
    have grow : ∀ {H1 H2 : Hp}, Same H H1 → (∀ b, b ≠ D → H2 b = H1 b) → Same H H2 := fun s1 e b o hb => by rw [e b (ne_of_none hb hD)]; exact s1 b o hb
    refine ⟨_, rfl, x, dx, _, rfl, sD _ _ hx1, x, rfl, p0.same sD, 1, rfl, by decide, by decide, for_range (lo := 0) (n := 1) (fun i σ H2 => (∃ u2 u3 u4 u5 u6, σ = [some (.ref x), some (.ref D), u2, u3, u4, u5, u6]) ∧ Same H H2 ∧ NoMay H2 D (4 * i)) ⟨⟨none, none, none, none, none, rfl⟩, sD, [], upd_same, Nat.le_refl _, rfl⟩ ?_ ?_⟩
    · rintro i σ H2 hi ⟨⟨u2, u3, u4, u5, u6, rfl⟩, s2, n2⟩
      obtain rfl : i = 0 := by omega
      refine ⟨_, rfl, x, dx, _, rfl, s2 _ _ hx1, x, rfl, p0.same s2, 1, rfl, by decide, by decide, for_range (lo := 0) (n := 1) (fun j σ H2 => (∃ u3 u4 u5 u6, σ = [some (.ref x), some (.ref D), some (.int 0), u3, u4, u5, u6]) ∧ Same H H2 ∧ NoMay H2 D (4 * j)) ⟨⟨u3, u4, u5, u6, rfl⟩, s2, n2⟩ ?_ ?_⟩
      · rintro j σ H3 hj ⟨⟨u3, u4, u5, u6, rfl⟩, s3, n3⟩
        obtain rfl : j = 0 := by omega
        refine ⟨_, rfl, by decide, fun a ha => ⟨a, rfl, ⟨_, SqT.of upd_same⟩, ?_⟩⟩
        have sa : Same H3 (upd H3 a (.tup [.int (-1), .int 1])) := Same.upd ha
        have n3' : NoMay (upd H3 a (.tup [.int (-1), .int 1])) D 0 := by
          obtain ⟨kvs, h1, h2⟩ := n3
          exact ⟨kvs, sa _ _ h1, h2⟩
        refine for_tup (K := K) (a := a) (xs := [.int (-1), .int 1]) (fun m σ H2 => (∃ u4 u5 u6, σ = [some (.ref x), some (.ref D), some (.int 0), some (.int 0), u4, u5, u6]) ∧ Same H H2 ∧ H2 a = some (.tup [.int (-1), .int 1]) ∧ NoMay H2 D m) ⟨⟨u4, u5, u6, rfl⟩, s3.trans sa, upd_same, n3'⟩ (fun m σ H2 _ h => SqT.of h.2.2.1) ?_ ?_
        · rintro m v σ H4 hv ⟨⟨u4, u5, u6, rfl⟩, s4, ha4, n4⟩
          obtain ⟨s1, rfl⟩ : ∃ s1 : Int, v = .int s1 := by
            rcases List.mem_cons.mp (List.mem_of_getElem? hv) with h | h
            · exact ⟨_, h⟩
            · exact ⟨_, List.mem_singleton.mp h⟩
          have hm2 : m < 2 := (List.getElem?_eq_some_iff.mp hv).1
          refine ⟨_, rfl, _, rfl, _, rfl, (by show 3 ≤ sizeLine; decide), fun b hb => ?_⟩
          have sb : Same H4 (upd H4 b (.tup [.int 0, .int 0, .int s1])) := Same.upd hb
          have s5 := s4.trans sb
          refine ⟨_, rfl, _, rfl, x, dx, _, rfl, s5 _ _ hx1, x, rfl, p0.same s5, fun t1 ht1 => ⟨_, _, .tup (SqT.of upd_same) (.cons (.int _) (.cons (.int _) (.cons (.int _) .nil))), .tup (SqT.of ht1) .nil, shaped_tri s1, shaped_non, _, rfl, ?_⟩⟩
          refine iteF ?_
          refine ⟨_, rfl, (by show 2 ≤ sizeLine; decide), fun c hc => ?_⟩
          have sc : Same (upd H4 b (.tup [.int 0, .int 0, .int s1])) (upd (upd H4 b (.tup [.int 0, .int 0, .int s1])) c (.tup [.str "may", .ref b])) := Same.upd hc
          refine ⟨_, rfl, _, rfl, _, rfl, c, rfl, .inl ⟨_, b, s1, .inl rfl, upd_same, sc _ _ upd_same⟩, fun y H5 hy s6 => ?_⟩
          have s7 := sb.trans (sc.trans s6)
          obtain ⟨kvs, h1, h2, h3⟩ := n4
          obtain ⟨H6, dp, n6, e6⟩ := NoMay.put (v := .ref c) (⟨kvs, s7 _ _ h1, h2, h3⟩ : NoMay H5 D m) (by omega) hy
          have aD : a ≠ D := ne_of ha4 h1 (by intro z; cases z)
          exact ⟨D, H6, rfl, dp, ⟨_, _, _, rfl⟩, grow (s4.trans s7) e6, by rw [e6 a aD]; exact s7 _ _ ha4, n6⟩
        · rintro σ H4 ⟨⟨u4, u5, u6, rfl⟩, s4, ha4, n4⟩
          refine ⟨⟨some (.int 0), u4, u5, u6, rfl⟩, s4, ?_⟩
          obtain ⟨kvs, h1, h2, h3⟩ := n4
          exact ⟨kvs, h1, Nat.le_trans h2 (by decide), h3⟩
      · rintro σ H3 ⟨⟨u3, u4, u5, u6, rfl⟩, s3, n3⟩
        exact ⟨⟨_, _, _, _, _, rfl⟩, s3, n3⟩
    · rintro σ H2 ⟨⟨u2, u3, u4, u5, u6, rfl⟩, s2, kvs, h1, h2, h3⟩
      exact ⟨_, rfl, k D H2 s2 hD ⟨kvs, h1, Nat.le_trans h2 (by decide), h3⟩⟩
end
end K5
set_option maxHeartbeats 4000000
namespace K5
open PySem L2 PySem.EX PyProof.Rows
section
variable {P : Program} {w : World} {K : PySem.W.Frag} {mg : Str → Option Value} {base : Heap}
theorem dc_lst {K : PySem.W.Frag} {a : Addr} {xs : List V} {g : TG} {tt : TT} {tk tv : TE} {vs : List Nat} {σ : L2.St} {H1 : Hp} {D : Addr} {Qd : Hp → Prop} (Pv : Nat → Hp → Prop) (h0 : Pv 0 (upd H1 D (.dK []))) (hl : ∀ i H, i ≤ xs.length → Pv i H → SqL K H a xs)
    (hs : ∀ i x H, xs[i]? = some x → Pv i H → g x (wipe σ vs) H fun σ2 H2 => wipe σ2 vs = wipe σ vs ∧ tt σ2 H2 fun b H3 =>
      if b = true then tk σ2 H3 fun y H4 => tv σ2 H4 fun z H5 => ∃ kvs k, y = kV k ∧ H5 D = some (.dK kvs) ∧ kvs.length < sizeLine ∧ Pv (i + 1) (upd H5 D (.dK (putK kvs k z))) else Pv (i + 1) H3) (hd : ∀ H, Pv xs.length H → Qd H) :
    ∃ W : Nat → Nat → Hp → Prop, (∃ m, W 0 m (upd H1 D (.dK []))) ∧ ∀ i m H, W i m H →
      ((Itl K a).stop i H ∧ Qd H) ∨ ((Itl K a).go i H ∧ ∃ Nx : Hp → Prop, (∀ H', Nx H' → ∃ m', m' < m ∧ W (i + 1) m' H') ∧ ∀ x H', (Itl K a).yld i H x H' → g x (wipe σ vs) H' fun σ2 H2 => wipe σ2 vs = wipe σ vs ∧ tt σ2 H2 fun b H3 =>
        if b = true then tk σ2 H3 fun y H4 => tv σ2 H4 fun z H5 => ∃ kvs k, y = kV k ∧ H5 D = some (.dK kvs) ∧ kvs.length < sizeLine ∧ Nx (upd H5 D (.dK (putK kvs k z))) else Nx H3) := by
  refine ⟨fun i m H => m = xs.length - i ∧ i ≤ xs.length ∧ Pv i H, ⟨xs.length, by simp, Nat.zero_le _, h0⟩, ?_⟩
  rintro i m H ⟨rfl, hi, p⟩
  have q := hl i H hi p
  by_cases hlt : i < xs.length
  · refine .inr ⟨⟨xs, xs[i], q, by simp [hlt]⟩, Pv (i + 1), fun H' p' => ⟨xs.length - (i + 1), by omega, rfl, hlt, p'⟩, fun x H' y => ?_⟩
    obtain ⟨e, y⟩ := y
    subst e
    exact hs i x _ (y xs q) p
  · have e : i = xs.length := by omega
    subst e
    exact .inl ⟨⟨xs, q, Nat.le_refl _⟩, hd H p⟩
theorem sc_flips : FnScope ["plan", "several", "switch", "asked"] ["plan"] (defScope (top 119)) := ⟨rfl, rfl, rfl, by decide +kernel, rfl, by decide +kernel, by decide +kernel⟩
theorem ok_flips (T : TxP P K mg) (C : TxC P K mg) (B : TxB P K mg) : Fnc P w K mg base CX0 3 "flips_of" ["plan"] (spDeeds K) := by
  have G : Fnc P w K mg base CX0 1 "deed_line" ["deed"] spDL := ok_dLine T B
  have R : PrB P w K mg base (cP K) 1 "switches" (spPsw K) := pr_psw C
  refine fnc0 B.flips sc_flips (fun vs H Q E h => ?_) (fun _ _ _ _ _ _ us hl => match us, hl with | [_], _ => rfl) (fun cdv A outer s H vs Q E hr h => ?_)
  · obtain ⟨x, rfl, _⟩ := h
    rfl
  · obtain ⟨x, rfl, p0, k⟩ := h
    refine ⟨_, pss_cons (ps_set (i := 1) sc_flips.nd rfl (Or.inl rfl) (pe_lst (pa_cons (pe_tup pa_nil) pa_nil)))
      (pss_cons (ps_for PassesOwn.never rfl (pi_range1 (by rfl) T.b_range (pa_cons (pe_prb (pv 0) C.pCls R hr) pa_nil)) (pg_name (i := 2) sc_flips.nd rfl (Or.inr rfl))
        (pss_one (ps_expr (pe_bm PySem.F.plainAttrs_list PySem.F.slot_list_extend PySem.F.type_list_extend mt_extend (pv 1) (pa_cons
          (pe_lc (own := [("asked", 3)]) (g := gName 3) (tt := tYes) (te := tTup (StX.tStar K (tVar 3) (tCons (tVar 2) tNil))) rfl sc_flips.nd (pi_list (pv 1)) (blkOk_by (N := ["plan", "several", "switch", "asked"]) (sc := defScope (top 119)) (by decide +kernel))
            (fun _ _ _ _ _ => pg_name (i := 3) sc_flips.nd rfl (Or.inl rfl)) (fun _ _ _ _ _ => pts_nil) (fun _ _ _ _ _ => pe_tup (StX.pa_star (pv 3) (pa_cons (pv 2) pa_nil)))) pa_nil)))))
      (pss_one (ps_ret (pe_dc (own := [("asked", 3)]) (g := gName 3) (tt := tYes) rfl sc_flips.nd (pi_list (pv 1)) (blkOk_by (N := ["plan", "several", "switch", "asked"]) (sc := defScope (top 119)) (by decide +kernel))
            (fun _ _ _ _ _ => pg_name (i := 3) sc_flips.nd rfl (Or.inl rfl)) (fun _ _ _ _ _ => pts_nil) (fun _ _ _ _ _ => pe_fn G (hr.mono (by decide)) pass0 (pa_cons (pe_tup (pa_cons pe_str (pa_cons (pv 3) pa_nil))) pa_nil)) (fun _ _ _ _ _ => pe_tup (pa_cons pe_str (pa_cons (pv 3) pa_nil))))))), ?_⟩
    have p0' := p0
    obtain ⟨dx, t, hx1, hx2⟩ := p0'
    refine ⟨by decide, fun e he => ⟨(by show 1 ≤ sizeLine; decide), fun l hl => ?_⟩⟩
    have hl0 : H l = none := (Same.upd he).free hl
    have sl : Same H (upd (upd H e (.tup [])) l (.lst [.ref e])) := (Same.upd he).trans (Same.upd hl)
    have he1 : (upd (upd H e (.tup [])) l (.lst [.ref e])) e = some (.tup []) := (Same.upd hl) _ _ upd_same
    refine ⟨_, rfl, x, dx, _, rfl, sl _ _ hx1, x, rfl, p0.same sl, 1, rfl, by decide, by decide, for_range (lo := 0) (n := 1) (fun i σ H2 => (∃ u2 u3, σ = [some (.ref x), some (.ref l), u2, u3]) ∧ Same H H2 ∧ H2 e = some (.tup []) ∧ ((i = 0 ∧ H2 l = some (.lst [.ref e])) ∨ (i = 1 ∧ ∃ e2, H2 l = some (.lst [.ref e, .ref e2]) ∧ H2 e2 = some (.tup [.int 0])))) ⟨⟨none, none, rfl⟩, sl, he1, .inl ⟨rfl, upd_same⟩⟩ ?_ ?_⟩
    · rintro i σ H2 hi ⟨⟨u2, u3, rfl⟩, s2, h2e, hc⟩
      obtain rfl : i = 0 := by omega
      rcases hc with ⟨_, h2l⟩ | ⟨z, _⟩
      · refine ⟨_, rfl, .inl ⟨rfl, _, SqL.of h2l⟩, ?_⟩
        refine ⟨_, rfl, l, rfl, ⟨_, SqL.of h2l⟩, fun D hD => lc_list (K := K) (a := l) (xs := [.ref e]) (fun j H3 => Same H2 H3 ∧ ((j = 0 ∧ H3 D = some (.lst [])) ∨ (j = 1 ∧ ∃ e2, H3 D = some (.lst [.ref e2]) ∧ H3 e2 = some (.tup [.int 0])))) ⟨Same.upd hD, .inl ⟨rfl, upd_same⟩⟩ (fun j H3 _ h => SqL.of (h.1 _ _ h2l)) ?_ ?_⟩
        · rintro j v H3 hv ⟨s3, hc⟩
          obtain rfl : j = 0 := by have := (List.getElem?_eq_some_iff.mp hv).1; simp at this; omega
          cases hv
          rcases hc with ⟨_, h3D⟩ | ⟨z, _⟩
          · refine ⟨rfl, ?_⟩
            refine ⟨_, rfl, e, [], rfl, .inl (SqT.of (s3 _ _ h2e)), _, rfl, (by show 1 ≤ sizeLine; decide), fun e2 he2 => ⟨[], (Same.upd he2) _ _ h3D, by decide, ?_⟩⟩
            have s4 : Same H2 (upd H3 e2 (.tup [.int 0])) := s3.trans (Same.upd he2)
            have De : D ≠ e2 := ne_of_none h3D he2
            exact ⟨s4.put hD, .inr ⟨rfl, e2, upd_same, by rw [upd_ne De.symm]; exact upd_same⟩⟩
          · cases z
        · rintro H3 ⟨s3, hc⟩
          rcases hc with ⟨z, _⟩ | ⟨_, e2, h3D, h3e⟩
          · cases z
          · have h3l := s3 _ _ h2l
            refine ⟨l, D, [.ref e], [.ref e2], rfl, rfl, h3l, h3D, (by show 2 ≤ sizeLine; decide), ?_⟩
            have el : e ≠ l := ne_of (s3 _ _ h2e) h3l (by intro z; cases z)
            have e2l : e2 ≠ l := ne_of h3e h3l (by intro z; cases z)
            exact ⟨⟨_, _, rfl⟩, (s2.trans s3).put hl0, by rw [upd_ne el]; exact s3 _ _ h2e, .inr ⟨rfl, e2, upd_same, by rw [upd_ne e2l]; exact h3e⟩⟩
      · cases z
    · rintro σ H2 ⟨⟨u2, u3, rfl⟩, s2, h2e, hc⟩
      rcases hc with ⟨z, _⟩ | ⟨_, e2, h2l, h2e2⟩
      · cases z
      · have hN : ∀ (v : V), v ∈ [V.ref e, V.ref e2] → ∃ a ns, v = .ref a ∧ H2 a = some (.tup (ns.map V.int)) ∧ (ns = [] ∨ ns = [0]) := fun v hv => by
          rcases List.mem_cons.mp hv with rfl | hv
          · exact ⟨e, [], rfl, h2e, .inl rfl⟩
          · cases List.mem_singleton.mp hv
            exact ⟨e2, [0], rfl, h2e2, .inr rfl⟩
        refine ⟨_, rfl, l, rfl, ⟨_, SqL.of h2l⟩, fun D hD => dc_lst (K := K) (a := l) (xs := [.ref e, .ref e2]) (fun j H3 => Same H2 H3 ∧ NoMay H3 D j) ⟨Same.upd hD, [], upd_same, Nat.le_refl _, rfl⟩ (fun j H3 _ h => SqL.of (h.1 _ _ h2l)) ?_ ?_⟩
        · rintro j v H3 hv ⟨s3, kvs, h1, hk, hm⟩
          obtain ⟨a, ns, rfl, ha, hns⟩ := hN v (List.mem_of_getElem? hv)
          have hj : j < 2 := (List.getElem?_eq_some_iff.mp hv).1
          refine ⟨rfl, ?_⟩
          refine ⟨_, rfl, (by show 2 ≤ sizeLine; decide), fun c hc => ?_⟩
          have sc : Same H3 (upd H3 c (.tup [.str "flip", .ref a])) := Same.upd hc
          refine ⟨c, rfl, .inr ⟨a, ns, upd_same, sc _ _ (s3 _ _ ha), hns⟩, fun y H5 hy s5 => ?_⟩
          refine ⟨_, rfl, (by show 2 ≤ sizeLine; decide), fun c2 hc2 => ?_⟩
          have s6 := (sc.trans s5).trans (Same.upd (o := .tup [.str "flip", .ref a]) hc2)
          refine ⟨kvs, .inr y, rfl, s6 _ _ h1, small1000 (by omega), (s3.trans s6).put hD, _, upd_same, Nat.le_trans (length_putK _ _ _) (by omega), ?_⟩
          rw [valV_put, if_neg (fun z => hy (by unfold kMay at z; exact (Sum.inr.inj z).symm))]
          exact hm
        · rintro H3 ⟨s3, kvs, h1, hk, hm⟩
          exact k D H3 (s2.trans s3) (s2.free hD) ⟨kvs, h1, Nat.le_trans hk (show 2 ≤ 1000 by decide), hm⟩
end
end K5
set_option maxHeartbeats 4000000
namespace K5
open PySem L2 PySem.EX PyProof.Rows
abbrev nl : Str := Str.ofString "\n"
abbrev tx1 : Str := Str.ofString "switches 1\nbok"
abbrev tx2 : Str := Str.ofString "switches 1\nbook\nmay"
section
variable {P : Program} {w : World} {K : PySem.W.Frag} {mg : Str → Option Value} {base : Heap}
def spSwI : Sp := fun vs H Q _ => (vs = [.str "switches 1"] ∧ Q (.int 1) H) ∨ (vs = [.str "x"] ∧ Q .non H)
theorem sc_swI : FnScope ["line", "many"] ["line"] (defScope (top 106)) := ⟨rfl, rfl, rfl, by decide +kernel, rfl, by decide +kernel, by decide +kernel⟩
theorem ok_swI (T : TxP P K mg) (B : TxB P K mg) : Fnc P w K mg base CX0 1 "switches_in" ["line"] spSwI := by
  obtain ⟨tm, hm⟩ := T.MOST_SWITCHES
  refine fnc0 B.swIn sc_swI (fun vs H Q E h => ?_) (fun _ _ _ _ _ _ us hl => match us, hl with | [_], _ => rfl) (fun cdv A outer s H vs Q E hr h => ?_)
  · rcases h with ⟨rfl, _⟩ | ⟨rfl, _⟩ <;> rfl
  · have go : ∀ (l : Str) (Q : VK), ((l = "switches 1" ∧ Q (.int 1) H) ∨ (l = "x" ∧ Q .non H)) → ∃ t, PSs (cxOf CX0 P w K mg base ["line", "many"] "switches_in" (defScope (top 106)) (He.ga K "switches_in") cdv A outer s H E).nox (defBody (top 106)) t ∧ t { nx := fun _ H' => Q .non H', rt := Q } (start ["line", "many"] [.str l]) H := by
      intro l Q k
      refine ⟨_, pss_cons (ps_for PassesOwn.never rfl (pi_range2 (by rfl) T.b_range (pa_cons pe_int (pa_cons (pe_op op_add (pe_glob (v := .int 5) (by rfl) hm ⟨_, rfl⟩) pe_int) pa_nil))) (pg_name (i := 1) sc_swI.nd rfl (Or.inl rfl))
          (pss_one (ps_if (pt_cmpR op_eq (pv 0) (pe_op op_add_str pe_str (pe_callTy call_str_int (by rfl) T.b_str (by decide +kernel) (pa_cons (pv 1) pa_nil))) (nomark _)) (pss_one (ps_ret (pv 1))) pss_nil)))
        (pss_one (ps_ret pe_non)), ?_⟩
      refine ⟨5, 1, rfl, rfl, 1, 6, rfl, ⟨by decide, by decide, by decide, by decide⟩, for_range (lo := 1) (n := 5) (fun i σ H2 => H2 = H ∧ (∃ x, σ = [some (.str l), x]) ∧ (i = 0 ∨ l = "x")) ⟨rfl, ⟨_, rfl⟩, .inl rfl⟩ ?_ ?_⟩
      · rintro i σ H2 hi ⟨rfl, ⟨x, rfl⟩, hn⟩
        have i5 : i = 0 ∨ i = 1 ∨ i = 2 ∨ i = 3 ∨ i = 4 := by omega
        have lg : ((1 : Int) + (i : Int)).natAbs.log2 < 1920 := Nat.lt_of_le_of_lt (Nat.log2_le_self _) (by omega)
        refine ⟨_, rfl, _, rfl, _, rfl, lg, _, _, rfl, rfl, ?_, rfl, _, rfl, ?_⟩
        · rcases i5 with rfl | rfl | rfl | rfl | rfl <;> decide +kernel
        · rcases k with ⟨rfl, k⟩ | ⟨rfl, k⟩
          · rcases hn with rfl | z
            · rw [show decide (V.str (Str.ofString "switches 1") = V.str (Str.ofString "switches " ++ Str.ofString (toString ((1 : Int) + ((0 : Nat) : Int))))) = true by decide +kernel]
              exact iteT ⟨_, rfl, k⟩
            · exact absurd z (by decide +kernel)
          · have e : decide (V.str (Str.ofString "x") = V.str (Str.ofString "switches " ++ Str.ofString (toString ((1 : Int) + (i : Int))))) = false := by
              rcases i5 with rfl | rfl | rfl | rfl | rfl <;> decide +kernel
            rw [e]
            exact iteF ⟨rfl, ⟨_, rfl⟩, .inr rfl⟩
      · rintro σ H2 ⟨rfl, ⟨x, rfl⟩, hn⟩
        rcases hn with z | rfl
        · cases z
        · rcases k with ⟨z, _⟩ | ⟨_, k⟩
          · exact absurd z (by decide +kernel)
          · exact k
    rcases h with ⟨rfl, k⟩ | ⟨rfl, k⟩
    · exact go _ Q (.inl ⟨rfl, k⟩)
    · exact go _ Q (.inr ⟨rfl, k⟩)
def spLnI (K : PySem.W.Frag) : Sp := fun vs H Q E => ∃ v, vs = [v] ∧ ((∃ t : Str, v = .str t ∧ t.length + 2 ≤ sizeLine ∧ ∀ p, H p = none → Q (.ref p) (upd H p (.lst ((Txt.split t nl).map V.str)))) ∨
  ∃ ty, TyX K H v ty ∧ PySem.W.kitOne K ty (.type "str") = some false ∧ XO (He.ga K "BadText") .index .non H E)
theorem sc_lnI : FnScope ["text"] ["text"] (defScope (top 107)) := ⟨rfl, rfl, rfl, by decide +kernel, rfl, by decide +kernel, by decide +kernel⟩
theorem ok_lnI (T : TxP P K mg) (B : TxB P K mg) : Fnc P w K mg base (L2.CX P w) 1 "lines_of" ["text"] (spLnI K) := by
  refine fnc B.lines sc_lnI (fun vs H Q E h => ?_) (fun _ _ _ _ _ _ us hl => match us, hl with | [_], _ => rfl) (fun cdv A outer s H vs Q E hr h => ?_)
  · obtain ⟨v, rfl, _⟩ := h
    rfl
  · obtain ⟨v, rfl, h⟩ := h
    refine ⟨_, pss_cons (ps_if (pt_not (pt_val (pe_callB call_isi (by rfl) T.b_isinstance (by decide +kernel) (pa_cons (pv 0) (pa_cons (pe_tyN (n := "str") T.b_str (by rfl) (by decide +kernel)) pa_nil)))))
        (pss_one (ps_raisePC rfl T.badText hr (takes_of rfl rfl rfl rfl) (pa_cons pe_non pa_nil))) pss_nil)
      (pss_one (ps_ret (pe_split (pv 0) pe_str))), ?_⟩
    rcases h with ⟨t, rfl, hz, k⟩ | ⟨ty, h1, h2, h3⟩
    · refine ⟨_, rfl, .str t, .ty "str", _, _, true, rfl, .ty _, .base (.str t), by with_unfolding_all rfl, _, rfl, ?_⟩
      refine iteF ?_
      exact ⟨_, rfl, ⟨t, rfl⟩, t, _, rfl, rfl, by decide, hz, fun p hp => k p hp⟩
    · refine ⟨_, rfl, v, .ty "str", _, _, false, rfl, .ty _, h1, h2, _, rfl, ?_⟩
      exact iteT ⟨_, rfl, fun d hd => h3.go same_refl hd⟩
def spRdB (K : PySem.W.Frag) : Sp := fun vs H Q E => ∃ v, vs = [v] ∧ ((∃ ty, TyX K H v ty ∧ PySem.W.kitOne K ty (.type "str") = some false ∧ XO (He.ga K "BadText") .index .non H E) ∨
  (v = .str "x" ∧ XO (He.ga K "BadText") .index (.int 0) H E) ∨ (v = .str tx1 ∧ XO (He.ga K "BadText") .index (.int 1) H E) ∨ (v = .str tx2 ∧ XO (He.ga K "BadText") .index (.int 2) H E))
theorem split_x : Txt.split (Str.ofString "x") nl = [Str.ofString "x"] := by decide +kernel
theorem split_1 : Txt.split tx1 nl = [Str.ofString "switches 1", Str.ofString "bok"] := by decide +kernel
theorem split_2 : Txt.split tx2 nl = [Str.ofString "switches 1", Str.ofString "book", Str.ofString "may"] := by decide +kernel
theorem sc_readPb : FnScope ["text", "lines", "switches", "book", "index", "line", "known"] ["text"] (defScope (top 120)) := ⟨rfl, rfl, rfl, by decide +kernel, rfl, by decide +kernel, by decide +kernel⟩
theorem ok_readPb (T : TxP P K mg) (C : TxC P K mg) (B : TxB P K mg) : Fnc P w K mg base (L2.CX P w) 8 "read_planbook" ["text"] (spRdB K) := by
  have GL : Fnc P w K mg base (L2.CX P w) 1 "lines_of" ["text"] (spLnI K) := ok_lnI T B
  have GS : Fnc P w K mg base CX0 1 "switches_in" ["line"] spSwI := ok_swI T B
  have GD : Fnc P w K mg base CX0 3 "deeds_of" ["plan"] (spDeeds K) := ok_deeds T C B
  have GF : Fnc P w K mg base CX0 3 "flips_of" ["plan"] (spDeeds K) := ok_flips T C B
  have RP : PrB P w K mg base (cB K) 1 "plan" (spBpl K) := pr_bpl C
  obtain ⟨fd, F, hb⟩ := ok_bInit (P := P) (w := w) (base := base) T C
  refine fnc B.readPb sc_readPb (fun vs H Q E h => ?_) (fun _ _ _ _ _ _ us hl => match us, hl with | [_], _ => rfl) (fun cdv A outer s H vs Q E hr h => ?_)
  · obtain ⟨v, rfl, _⟩ := h
    rfl
  · obtain ⟨v, rfl, h⟩ := h
    have hu : (cxOf (L2.CX P w) P w K mg base ["text", "lines", "switches", "book", "index", "line", "known"] "read_planbook" (defScope (top 120)) (He.ga K "read_planbook") cdv A outer s H E).A.units + 1 < cLine := Nat.lt_of_le_of_lt (Nat.add_le_add_left (by decide : 1 ≤ 64) _) hr.units
    refine ⟨_, pss_cons (ps_set (i := 1) sc_readPb.nd rfl (Or.inl rfl) (pe_fn GL (hr.mono (by decide)) (passes_call (takes_of rfl rfl rfl rfl) (fun _ _ _ _ h => h)) (pa_cons (pv 0) pa_nil)))
      (pss_cons (ps_set (i := 2) sc_readPb.nd rfl (Or.inl rfl) (pe_fn GS (hr.mono (by decide)) pass0 (pa_cons (pe_ix ix_list (pv 1) pe_int (fun _ _ => rfl)) pa_nil)))
      (pss_cons (ps_if (pt_cmpR op_isN (pv 2) pe_non (nomark _)) (pss_one (ps_raisePC rfl T.badText hr (takes_of rfl rfl rfl rfl) (pa_cons pe_int pa_nil))) pss_nil)
      (pss_cons (ps_if (PW.pt (pw_or (pt_cmpR op_lt (pe_callB call_len_seq (by rfl) T.b_len PySem.boot_len (pa_cons (pv 1) pa_nil)) pe_int (nomark _)) (pw_or1 (pt_cmpR op_ne (pe_ix ix_list (pv 1) pe_int (fun _ _ => rfl)) pe_str (nomark _))))) (pss_one (ps_raisePC rfl T.badText hr (takes_of rfl rfl rfl rfl) (pa_cons pe_int pa_nil))) pss_nil)
      (pss_cons (ps_set (i := 3) sc_readPb.nd rfl (Or.inl rfl) (pe_make C.bMk F hr (by rfl) C.bGlo hb .nil (passes_call (takes_of rfl rfl rfl rfl) (fun _ _ _ _ h => h)) (pa_cons (pv 2) pa_nil)))
      (pss_cons (ps_for (passes_of rfl) rfl (pi_enum (by rfl) C.enum (pa_cons (pe_slice sl_list (pv 1) (po_some pe_int) po_none) pa_nil)) (pg_tup rfl (pgs_cons (pg_name (i := 4) sc_readPb.nd rfl (Or.inl rfl)) (pgs_cons (pg_name (i := 5) sc_readPb.nd rfl (Or.inl rfl)) pgs_nil)))
        (pss_cons (ps_set (i := 6) sc_readPb.nd rfl (Or.inl rfl) (pe_mrg (pe_fn GD (hr.mono (by decide)) pass0 (pa_cons (pe_prb (pv 3) C.bCls RP (hr.mono (by decide))) pa_nil)) (pe_fn GF (hr.mono (by decide)) pass0 (pa_cons (pe_prb (pv 3) C.bCls RP (hr.mono (by decide))) pa_nil))))
        (pss_cons (ps_if (pt_cmp (pc_dnotin hu (pv 5) (pv 6)) (by with_unfolding_all rfl)) (pss_one (ps_raisePC rfl T.badText hr (takes_of rfl rfl rfl rfl) (pa_cons (pe_op op_add (pv 4) pe_int) pa_nil))) pss_nil) pss_any)))
      pss_any))))), ?_⟩
    rcases h with ⟨ty, h1, h2, h3⟩ | ⟨rfl, h3⟩ | ⟨rfl, h3⟩ | ⟨rfl, h3⟩
    · exact ⟨_, rfl, v, rfl, .inr ⟨ty, h1, h2, h3⟩⟩
    · refine ⟨_, rfl, .str "x", rfl, .inl ⟨_, rfl, by decide +kernel, fun p hp => ?_⟩⟩
      rw [split_x]
      refine ⟨_, rfl, p, _, (0 : Int), V.str "x", rfl, rfl, SqL.of upd_same, rfl, .inr ⟨rfl, ?_⟩⟩
      refine ⟨_, rfl, rfl, _, rfl, iteT ?_⟩
      exact ⟨_, rfl, fun d hd => h3.go (Same.upd hp) hd⟩
    · refine ⟨_, rfl, .str tx1, rfl, .inl ⟨_, rfl, by decide +kernel, fun p hp => ?_⟩⟩
      rw [split_1]
      refine ⟨_, rfl, p, _, (0 : Int), V.str "switches 1", rfl, rfl, SqL.of upd_same, rfl, .inl ⟨rfl, ?_⟩⟩
      refine ⟨_, rfl, rfl, _, rfl, iteF ?_⟩
      refine ⟨_, rfl, p, _, rfl, .inl (SqL.of upd_same), ?_⟩
      refine ⟨2, 2, rfl, rfl, _, rfl, iteF ?_⟩
      refine ⟨_, rfl, p, _, (1 : Int), V.str "bok", rfl, rfl, SqL.of upd_same, rfl, rfl, _, rfl, iteT ?_⟩
      exact ⟨_, rfl, fun d hd => h3.go (Same.upd hp) hd⟩
    · refine ⟨_, rfl, .str tx2, rfl, .inl ⟨_, rfl, by decide +kernel, fun p hp => ?_⟩⟩
      rw [split_2]
      refine ⟨_, rfl, p, _, (0 : Int), V.str "switches 1", rfl, rfl, SqL.of upd_same, rfl, .inl ⟨rfl, ?_⟩⟩
      refine ⟨_, rfl, rfl, _, rfl, iteF ?_⟩
      refine ⟨_, rfl, p, _, rfl, .inl (SqL.of upd_same), ?_⟩
      refine ⟨3, 2, rfl, rfl, _, rfl, iteF ?_⟩
      refine ⟨_, rfl, p, _, (1 : Int), V.str "book", rfl, rfl, SqL.of upd_same, rfl, rfl, _, rfl, iteF ?_⟩
      refine ⟨_, rfl, fun bk dx hbk hdx hne => ⟨bk, dx, _, rfl, upd_same, .inr ⟨rfl, fun H1 kp b0 => ⟨rfl, ?_⟩⟩⟩⟩
      have s1 : Same H H1 := fun c o hc => by
        have e1 := (Same.upd (o := .lst (([Str.ofString "switches 1", Str.ofString "book", Str.ofString "may"] : List Str).map V.str)) hp) _ _ hc
        have n1 := ne_of_none e1 hbk
        have n2 := ne_of_none e1 hdx
        exact kp _ _ n1 (by rw [upd_ne n1, upd_ne n2]; exact e1)
      have hp1 : H1 p = some (.lst (([Str.ofString "switches 1", Str.ofString "book", Str.ofString "may"] : List Str).map V.str)) := by
        have e1 : (upd H p (.lst (([Str.ofString "switches 1", Str.ofString "book", Str.ofString "may"] : List Str).map V.str))) p = some (.lst (([Str.ofString "switches 1", Str.ofString "book", Str.ofString "may"] : List Str).map V.str)) := upd_same
        have n1 := ne_of_none e1 hbk
        have n2 := ne_of_none e1 hdx
        exact kp _ _ n1 (by rw [upd_ne n1, upd_ne n2]; exact e1)
      refine ⟨_, rfl, _, rfl, p, _, rfl, SqL.of hp1, fun q hq => ?_⟩
      have sq : Same H1 (upd H1 q (.lst [.str (Str.ofString "may")])) := Same.upd hq
      refine ⟨q, [.str (Str.ofString "may")], rfl, SqL.of upd_same, ?_⟩
      refine for_it (walk_enum (K := K) (a := q) (xs := [.str (Str.ofString "may")])) (fun i σ H2 => i = 0 ∧ (∃ u4 u5 u6, σ = [some (.str tx2), some (.ref p), some (.int 1), some (.ref bk), u4, u5, u6]) ∧ Same (upd H1 q (.lst [.str (Str.ofString "may")])) H2) ⟨rfl, ⟨none, none, none, rfl⟩, same_refl⟩ (fun i σ H2 _ h => SqL.of (h.2.2 _ _ upd_same)) ?_ ?_
      · rintro i x σ H2 H3 hi ⟨rfl, ⟨u4, u5, u6, rfl⟩, s2⟩ ⟨p2, x1, x2, rfl, hp2, rfl, e1, e2⟩
        cases e1
        cases e2
        refine ⟨p2, _, rfl, SqT.of upd_same, rfl, ?_⟩
        refine ⟨_, _, rfl, ⟨_, _, rfl, rfl, ?_⟩⟩
        have s3 : Same H1 (upd H2 p2 (.tup [.int ((0 : Nat) : Int), .str (Str.ofString "may")])) := (sq.trans s2).trans (Same.upd hp2)
        refine fun m hm => ?_
        have nm1 : H1 m = none := s3.free hm
        have sA := s3.trans (Same.upd (o := .dK []) hm)
        have b0' := b0
        obtain ⟨dxb, l1, l2, l3, x0, hb1, _⟩ := b0'
        refine ⟨_, rfl, bk, dxb, _, rfl, sA _ _ hb1, bk, rfl, b0.same sA, fun x0 px => ⟨x0, rfl, px, fun D H5 s5 nD nmD => ?_⟩⟩
        obtain ⟨ks, hD, hk, hmay⟩ := nmD
        have Dm : D ≠ m := fun z => by
          rw [z, upd_same] at nD
          cases nD
        have hm5 := s5 _ _ (upd_same (H := upd H2 p2 (.tup [.int ((0 : Nat) : Int), .str (Str.ofString "may")])) (a := m) (o := .dK []))
        refine ⟨hm5, D, ks, rfl, hD, Dm, hk, ?_⟩
        have sB : Same H1 (upd H5 m (.dK (mergeK [] ks))) := (sA.trans s5).put nm1
        refine ⟨_, rfl, bk, dxb, _, rfl, sB _ _ hb1, bk, rfl, b0.same sB, fun x1 px1 => ⟨x1, rfl, px1, fun D2 H6 s6 nD2 nmD2 => ?_⟩⟩
        obtain ⟨ls, hD2, hl, hmay2⟩ := nmD2
        have D2m : D2 ≠ m := fun z => by
          rw [z, upd_same] at nD2
          cases nD2
        refine ⟨s6 _ _ upd_same, D2, ls, rfl, hD2, D2m, hl, ?_⟩
        refine ⟨_, rfl, _, rfl, m, _, rfl, DGet.k (k := kMay) upd_same, _, rfl, ?_⟩
        rw [valV_merge (valV_merge rfl hmay) hmay2]
        refine iteT ?_
        exact ⟨_, rfl, _, _, rfl, rfl, _, rfl, fun d hd => h3.go (s1.trans ((sB.trans s6).put nm1)) hd⟩
      · rintro σ H2 ⟨z, _⟩
        cases z
end
end K5
set_option maxHeartbeats 4000000
namespace K5
open PySem L2 PySem.EX PyProof.Rows
open LamX (Tabs ExtN TabB LamS lamEnv lamCx lamS_by)
abbrev sNamed : Stmt := top 127
abbrev sTold : Stmt := top 128
def exN : List Str := ["BadNumber", "BadText", "BadKind", "BadStates", "BadEdit", "NothingDone", "NothingUndone", "NoPlanbook"]
def dCls : DueE → Str
  | .num _ => "BadNumber" | .text _ => "BadText" | .kind => "BadKind" | .states => "BadStates" | .edit => "BadEdit" | .done => "NothingDone" | .undone => "NothingUndone" | .book => "NoPlanbook"
structure TxN (K : PySem.W.Frag) (mg : Str → Option Value) : Prop where
  named : Def K mg "_law_named" sNamed
  caught : Def K mg "_law_caught" sCaught
  told : Def K mg "_law_told" sTold
  net : mg "NetError" = some (.ref (He.ga K "NetError"))
  val : mg "ValueError" = none
  xc : ∀ x ∈ exN, XC K (He.ga K x)
  exm : ∀ x ∈ exN, PySem.W.exmOne K (.ref (He.ga K x)) (.ref (He.ga K "NetError")) = some true
  kit : ∀ x ∈ exN, ∀ y ∈ exN, PySem.W.kitOne K (.ref (He.ga K x)) (.ref (He.ga K y)) = some (decide (x = y))
  kitV : ∀ x ∈ exN, PySem.W.kitOne K (.ref (He.ga K x)) (.type "ValueError") = some true
  noI : PySem.W.findIn K (.ref (He.ga K "BadText")) "index" = some none
  noP : PySem.W.findIn K (.ref (He.ga K "BadNumber")) "part" = some none
theorem dCls_mem (d : DueE) : dCls d ∈ exN := by cases d <;> simp [dCls, exN]
section
variable {P : Program} {w : World} {K : PySem.W.Frag} {mg : Str → Option Value} {base : Heap}
/-- the error that is held at a -/
def dFld : DueE → List (Str × V)
  | .num p => [("part", .str p)] | .text v => [("index", v)] | _ => []
def HeldE (K : PySem.W.Frag) (d : DueE) (H : Hp) (a : Addr) : Prop := ∃ dd, H a = some (ExV (.ref (He.ga K (dCls d))) dd a) ∧ XD H dd (dFld d)
theorem HeldE.isx (N : TxN K mg) {d : DueE} {H : Hp} {a : Addr} {Q : VK} {c y : Str} {b : Bool} (h : HeldE K d H a) (hc : dCls d = c) (hy : y ∈ exN) (e : decide (c = y) = b) (q : Q (.bl b) H) : rIsA K [.ref a, .ref (He.ga K y)] H Q := by
  obtain ⟨dd, h1, h2⟩ := h
  exact .inl ⟨a, _, dd, _, _, _, b, rfl, .own _, h1, h2, N.xc _ (dCls_mem d), by rw [← e, ← hc]; exact N.kit _ (dCls_mem d) _ hy, q⟩
/-- what is answered -/
def Ans (H : Hp) (d : DueE) (r : V) : Prop := match d with
  | .num p => r = .str p
  | .text v => ∃ t, r = .ref t ∧ H t = some (.tup [.str "text", v])
  | .kind => r = .str "kind" | .states => r = .str "states" | .edit => r = .str "edit" | .done => r = .str "done" | .undone => r = .str "undone" | .book => r = .str "book"
def spNamed (K : PySem.W.Frag) : Sp := fun vs H Q _ => ∃ a d, vs = [.ref a] ∧ HeldE K d H a ∧ ∀ r H', Same H H' → Ans H' d r → Q r H'
theorem sc_named : FnScope ["caught"] ["caught"] (defScope sNamed) := ⟨rfl, rfl, rfl, by decide +kernel, rfl, by decide +kernel, by decide +kernel⟩
theorem ok_named (T : TxP P K mg) (N : TxN K mg) : Fnc P w K mg base CX0 1 "_law_named" ["caught"] (spNamed K) := by
  refine fnc0 N.named sc_named (fun vs H Q E h => ?_) (fun _ _ _ _ _ _ us hl => match us, hl with | [_], _ => rfl) (fun cdv A outer s H vs Q E hr h => ?_)
  · obtain ⟨a, d, rfl, _⟩ := h
    rfl
  · obtain ⟨a, d, rfl, hh, k⟩ := h
    refine ⟨_, pss_cons (ps_if (pt_val (pe_callB call_isA (by rfl) T.b_isinstance (by decide +kernel) (pa_cons (pv 0) (pa_cons (pe_glob (v := .ref (He.ga K "BadNumber")) (by rfl) T.badNum.glo rfl) pa_nil)))) (pss_one (ps_ret (pe_xfld (pv 0)))) pss_nil)
      (pss_cons (ps_if (pt_val (pe_callB call_isA (by rfl) T.b_isinstance (by decide +kernel) (pa_cons (pv 0) (pa_cons (pe_glob (v := .ref (He.ga K "BadText")) (by rfl) T.badText.glo rfl) pa_nil)))) (pss_one (ps_ret (pe_tup (pa_cons pe_str (pa_cons (pe_xfld (pv 0)) pa_nil))))) pss_nil)
      (pss_cons (ps_if (pt_val (pe_callB call_isA (by rfl) T.b_isinstance (by decide +kernel) (pa_cons (pv 0) (pa_cons (pe_glob (v := .ref (He.ga K "BadKind")) (by rfl) T.o_BadKind.glo rfl) pa_nil)))) (pss_one (ps_ret pe_str)) pss_nil)
      (pss_cons (ps_if (pt_val (pe_callB call_isA (by rfl) T.b_isinstance (by decide +kernel) (pa_cons (pv 0) (pa_cons (pe_glob (v := .ref (He.ga K "BadStates")) (by rfl) T.o_BadStates.glo rfl) pa_nil)))) (pss_one (ps_ret pe_str)) pss_nil)
      (pss_cons (ps_if (pt_val (pe_callB call_isA (by rfl) T.b_isinstance (by decide +kernel) (pa_cons (pv 0) (pa_cons (pe_glob (v := .ref (He.ga K "BadEdit")) (by rfl) T.o_BadEdit.glo rfl) pa_nil)))) (pss_one (ps_ret pe_str)) pss_nil)
      (pss_cons (ps_if (pt_val (pe_callB call_isA (by rfl) T.b_isinstance (by decide +kernel) (pa_cons (pv 0) (pa_cons (pe_glob (v := .ref (He.ga K "NothingDone")) (by rfl) T.o_NothingDone.glo rfl) pa_nil)))) (pss_one (ps_ret pe_str)) pss_nil)
      (pss_cons (ps_if (pt_val (pe_callB call_isA (by rfl) T.b_isinstance (by decide +kernel) (pa_cons (pv 0) (pa_cons (pe_glob (v := .ref (He.ga K "NothingUndone")) (by rfl) T.o_NothingUndone.glo rfl) pa_nil)))) (pss_one (ps_ret pe_str)) pss_nil)
      (pss_one (ps_ret (pe_ifExp (pt_val (pe_callB call_isA (by rfl) T.b_isinstance (by decide +kernel) (pa_cons (pv 0) (pa_cons (pe_glob (v := .ref (He.ga K "NoPlanbook")) (by rfl) T.o_NoPlanbook.glo rfl) pa_nil)))) pe_str pe_non))))))))), ?_⟩
    cases d with
    | num p =>
      refine ⟨_, rfl, hh.isx N (c := "BadNumber") (b := true) rfl (by decide +kernel) (by decide +kernel) ⟨_, rfl, iteT ?_⟩⟩
      obtain ⟨dd, h1, h2⟩ := hh
      rcases h2 with ⟨_, z⟩ | ⟨d', rfl, h3⟩
      · cases z
      · exact ⟨_, rfl, a, _, d', _, _, rfl, h1, h3, N.xc _ (dCls_mem (.num p)), N.noP, rfl, k _ H same_refl rfl⟩
    | text v =>
      refine ⟨_, rfl, hh.isx N (c := "BadText") (b := false) rfl (by decide +kernel) (by decide +kernel) ⟨_, rfl, iteF ?_⟩⟩
      refine ⟨_, rfl, hh.isx N (c := "BadText") (b := true) rfl (by decide +kernel) (by decide +kernel) ⟨_, rfl, iteT ?_⟩⟩
      obtain ⟨dd, h1, h2⟩ := hh
      rcases h2 with ⟨_, z⟩ | ⟨d', rfl, h3⟩
      · cases z
      · exact ⟨_, rfl, a, _, d', _, _, rfl, h1, h3, N.xc _ (dCls_mem (.text v)), N.noI, rfl, (by show 2 ≤ sizeLine; decide), fun t ht => k _ _ (Same.upd ht) ⟨t, rfl, upd_same⟩⟩
    | kind =>
      refine ⟨_, rfl, hh.isx N (c := "BadKind") (b := false) rfl (by decide +kernel) (by decide +kernel) ⟨_, rfl, iteF ?_⟩⟩
      refine ⟨_, rfl, hh.isx N (c := "BadKind") (b := false) rfl (by decide +kernel) (by decide +kernel) ⟨_, rfl, iteF ?_⟩⟩
      refine ⟨_, rfl, hh.isx N (c := "BadKind") (b := true) rfl (by decide +kernel) (by decide +kernel) ⟨_, rfl, iteT ?_⟩⟩
      exact k _ H same_refl rfl
    | states =>
      refine ⟨_, rfl, hh.isx N (c := "BadStates") (b := false) rfl (by decide +kernel) (by decide +kernel) ⟨_, rfl, iteF ?_⟩⟩
      refine ⟨_, rfl, hh.isx N (c := "BadStates") (b := false) rfl (by decide +kernel) (by decide +kernel) ⟨_, rfl, iteF ?_⟩⟩
      refine ⟨_, rfl, hh.isx N (c := "BadStates") (b := false) rfl (by decide +kernel) (by decide +kernel) ⟨_, rfl, iteF ?_⟩⟩
      refine ⟨_, rfl, hh.isx N (c := "BadStates") (b := true) rfl (by decide +kernel) (by decide +kernel) ⟨_, rfl, iteT ?_⟩⟩
      exact k _ H same_refl rfl
    | edit =>
      refine ⟨_, rfl, hh.isx N (c := "BadEdit") (b := false) rfl (by decide +kernel) (by decide +kernel) ⟨_, rfl, iteF ?_⟩⟩
      refine ⟨_, rfl, hh.isx N (c := "BadEdit") (b := false) rfl (by decide +kernel) (by decide +kernel) ⟨_, rfl, iteF ?_⟩⟩
      refine ⟨_, rfl, hh.isx N (c := "BadEdit") (b := false) rfl (by decide +kernel) (by decide +kernel) ⟨_, rfl, iteF ?_⟩⟩
      refine ⟨_, rfl, hh.isx N (c := "BadEdit") (b := false) rfl (by decide +kernel) (by decide +kernel) ⟨_, rfl, iteF ?_⟩⟩
      refine ⟨_, rfl, hh.isx N (c := "BadEdit") (b := true) rfl (by decide +kernel) (by decide +kernel) ⟨_, rfl, iteT ?_⟩⟩
      exact k _ H same_refl rfl
    | done =>
      refine ⟨_, rfl, hh.isx N (c := "NothingDone") (b := false) rfl (by decide +kernel) (by decide +kernel) ⟨_, rfl, iteF ?_⟩⟩
      refine ⟨_, rfl, hh.isx N (c := "NothingDone") (b := false) rfl (by decide +kernel) (by decide +kernel) ⟨_, rfl, iteF ?_⟩⟩
      refine ⟨_, rfl, hh.isx N (c := "NothingDone") (b := false) rfl (by decide +kernel) (by decide +kernel) ⟨_, rfl, iteF ?_⟩⟩
      refine ⟨_, rfl, hh.isx N (c := "NothingDone") (b := false) rfl (by decide +kernel) (by decide +kernel) ⟨_, rfl, iteF ?_⟩⟩
      refine ⟨_, rfl, hh.isx N (c := "NothingDone") (b := false) rfl (by decide +kernel) (by decide +kernel) ⟨_, rfl, iteF ?_⟩⟩
      refine ⟨_, rfl, hh.isx N (c := "NothingDone") (b := true) rfl (by decide +kernel) (by decide +kernel) ⟨_, rfl, iteT ?_⟩⟩
      exact k _ H same_refl rfl
    | undone =>
      refine ⟨_, rfl, hh.isx N (c := "NothingUndone") (b := false) rfl (by decide +kernel) (by decide +kernel) ⟨_, rfl, iteF ?_⟩⟩
      refine ⟨_, rfl, hh.isx N (c := "NothingUndone") (b := false) rfl (by decide +kernel) (by decide +kernel) ⟨_, rfl, iteF ?_⟩⟩
      refine ⟨_, rfl, hh.isx N (c := "NothingUndone") (b := false) rfl (by decide +kernel) (by decide +kernel) ⟨_, rfl, iteF ?_⟩⟩
      refine ⟨_, rfl, hh.isx N (c := "NothingUndone") (b := false) rfl (by decide +kernel) (by decide +kernel) ⟨_, rfl, iteF ?_⟩⟩
      refine ⟨_, rfl, hh.isx N (c := "NothingUndone") (b := false) rfl (by decide +kernel) (by decide +kernel) ⟨_, rfl, iteF ?_⟩⟩
      refine ⟨_, rfl, hh.isx N (c := "NothingUndone") (b := false) rfl (by decide +kernel) (by decide +kernel) ⟨_, rfl, iteF ?_⟩⟩
      refine ⟨_, rfl, hh.isx N (c := "NothingUndone") (b := true) rfl (by decide +kernel) (by decide +kernel) ⟨_, rfl, iteT ?_⟩⟩
      exact k _ H same_refl rfl
    | book =>
      refine ⟨_, rfl, hh.isx N (c := "NoPlanbook") (b := false) rfl (by decide +kernel) (by decide +kernel) ⟨_, rfl, iteF ?_⟩⟩
      refine ⟨_, rfl, hh.isx N (c := "NoPlanbook") (b := false) rfl (by decide +kernel) (by decide +kernel) ⟨_, rfl, iteF ?_⟩⟩
      refine ⟨_, rfl, hh.isx N (c := "NoPlanbook") (b := false) rfl (by decide +kernel) (by decide +kernel) ⟨_, rfl, iteF ?_⟩⟩
      refine ⟨_, rfl, hh.isx N (c := "NoPlanbook") (b := false) rfl (by decide +kernel) (by decide +kernel) ⟨_, rfl, iteF ?_⟩⟩
      refine ⟨_, rfl, hh.isx N (c := "NoPlanbook") (b := false) rfl (by decide +kernel) (by decide +kernel) ⟨_, rfl, iteF ?_⟩⟩
      refine ⟨_, rfl, hh.isx N (c := "NoPlanbook") (b := false) rfl (by decide +kernel) (by decide +kernel) ⟨_, rfl, iteF ?_⟩⟩
      refine ⟨_, rfl, hh.isx N (c := "NoPlanbook") (b := false) rfl (by decide +kernel) (by decide +kernel) ⟨_, rfl, iteF ?_⟩⟩
      refine ⟨_, rfl, hh.isx N (c := "NoPlanbook") (b := true) rfl (by decide +kernel) (by decide +kernel) ⟨_, rfl, iteT ?_⟩⟩
      exact k _ H same_refl rfl
end
end K5
set_option maxHeartbeats 4000000
namespace K5
open PySem L2 PySem.EX PyProof.Rows
open LamX (Tabs ExtN TabB LamS lamEnv lamCx lamS_by run_ofS CodeO)
theorem pe_mono {X : Cx} {e : Expr} {te : TE} (he : PE X e te) : PE X e (fun σ H Q => ∃ Qn : VK, (∀ v H1, Qn v H1 → Q v H1) ∧ te σ H Qn) := by
  refine ⟨fun pins s σ H Q I h => ?_⟩
  obtain ⟨Qn, hq, h⟩ := h
  exact thn (he.run pins s σ H _ I h) fun u s1 ⟨v, H1, I1, r1, q⟩ => ⟨v, H1, I1, r1, hq v H1 q⟩
section
variable {P : Program} {w : World} {K : PySem.W.Frag} {mg : Str → Option Value} {base : Heap}
theorem scCaught : FnScope ["work", "found", "error"] ["work"] (defScope sCaught) := ⟨rfl, rfl, rfl, by decide +kernel, rfl, by decide +kernel, by decide +kernel⟩
theorem takes_caught (N : TxN K mg) (k : Nat) : Takes1 P w K mg base (He.ga K "_law_caught") 1 k (TCaught K (He.ga K "NetError")) := by
  obtain ⟨⟨fd, F⟩, g⟩ := N.caught
  obtain ⟨oc, od, dV, kV, doc, pm, an, cdv, ct, osl, rfl, lk, hcd, hD, _⟩ := F.ex
  rcases hD with ⟨_, rfl⟩ | ⟨e, _⟩
  · exact caught_takes lk hcd scCaught rfl (fun us hl => match us, hl with | [_], _ => rfl) rfl rfl rfl rfl N.net
  · exact absurd rfl e
theorem kp_caught (N : TxN K mg) : PySem.W.keepIn K (.ref (He.ga K "_law_caught")) = true := by
  obtain ⟨⟨fd, F⟩, g⟩ := N.caught
  exact F.kp
theorem kp_told (N : TxN K mg) : PySem.W.keepIn K (.ref (He.ga K "_law_told")) = true := by
  obtain ⟨⟨fd, F⟩, g⟩ := N.told
  exact F.kp
/-- what a call of _law_told asks of the callable: an error that is due -/
def TTold (K : PySem.W.Frag) : TL → Hp → VK → Prop := fun tl H Q => TCaught K (He.ga K "NetError") tl H fun r H1 => ∃ a d, r = .ref a ∧ HeldE K d H1 a ∧ ∀ r' H', Same H1 H' → Ans H' d r' → Q r' H'
theorem sc_told : FnScope ["work", "caught"] ["work"] (defScope sTold) := ⟨rfl, rfl, rfl, by decide +kernel, rfl, by decide +kernel, by decide +kernel⟩
theorem takes_told (T : TxP P K mg) (N : TxN K mg) (k : Nat) : Takes1 P w K mg base (He.ga K "_law_told") 2 k (TTold K) := by
  have GN : Fnc P w K mg base CX0 1 "_law_named" ["caught"] (spNamed K) := ok_named T N
  obtain ⟨⟨fd, F⟩, g⟩ := N.told
  obtain ⟨oc, od, dV, kV, doc, pm, an, cdv, ct, osl, rfl, lk, hcd, hD, _⟩ := F.ex
  rcases hD with ⟨_, rfl⟩ | ⟨e, _⟩
  · intro fs s0 H0 f c' q tl A outer s H Q FA hf lt hr e0 hc ht
    have hr1 : Room ((1 + k) + 1) A := by rw [show (1 + k) + 1 = 2 + k by omega]; exact hr
    refine run_ofS (N := ["work", "caught"]) (ps := ["work"]) (us := [.ref f]) (vs := [.ref f]) (k := 1 + k) (E := E0) (CX := CX0) lk hcd sc_told hr1 e0 (BindsTo.of_eq rfl) (.cons rfl .nil) rfl fun hr' => ?_
    refine ⟨_, PSs.nox (pss_cons (ps_set (i := 1) sc_told.nd rfl (.inl rfl) (pe_mono (pe_hand (i := 0) (takes_caught N k) N.caught.2 (kp_caught N) lt FA hf hr' rfl (.inl rfl))))
      (pss_one (ps_ret (pe_ifExp (pt_val (pe_callB call_isA (by rfl) T.b_isinstance (by decide +kernel) (pa_cons (pv 1) (pa_cons (pe_tyN (n := "ValueError") N.val (by rfl) (by decide +kernel)) pa_nil)))) (pe_fn GN (hr'.mono (by omega)) pass0 (pa_cons (pv 1) pa_nil)) pe_non)))), ?_⟩
    refine ⟨_, fun v H1 hv => ?_, rfl, hc, ht⟩
    obtain ⟨a, d, rfl, hh, k2⟩ := hv
    have hh' := hh
    obtain ⟨dd, h1, h2⟩ := hh'
    refine ⟨_, rfl, .inl ⟨a, _, dd, _, .ty "ValueError", _, true, rfl, .ty _, h1, h2, N.xc _ (dCls_mem d), N.kitV _ (dCls_mem d), _, rfl, iteT ?_⟩⟩
    exact ⟨_, rfl, a, d, rfl, hh, k2⟩
  · exact absurd rfl e
end
end K5
set_option maxHeartbeats 4000000
namespace K5
open PySem L2 PySem.EX PyProof.Rows
open LamX (Tabs ExtN TabB LamS lamEnv lamCx lamS_by run_ofS CodeO)
abbrev lamQ (x : Str) : Str := x ++ Str.ofString ".<locals>." ++ Str.ofString "<lambda>"
abbrev sFirst : Stmt := top 129
abbrev sBehind : Stmt := top 130
section
variable {P : Program} {w : World} {K : PySem.W.Frag} {mg : Str → Option Value} {base : Heap}
theorem Tabs_putL {T : List (Addr × Str)} {H : Hp} {D : Addr} {xs : List V} {o : HO} (h : Tabs T H) (hD : H D = some (.lst xs)) : Tabs T (upd H D o) := by
  intro p hp
  obtain ⟨ps, e, ok, g⟩ := h p hp
  refine ⟨ps, by rw [upd_ne (ne_of e hD (by intro z; cases z))]; exact e, ok, fun pos cv hc => ?_⟩
  obtain ⟨c, e1, e2⟩ := g pos cv hc
  exact ⟨c, e1, by rw [upd_ne (ne_of e2 hD (by intro z; cases z))]; exact e2⟩
/-- the list at D grows; all but it and the tables stands -/
structure FI (T : List (Addr × Str)) (H : Hp) (D : Addr) (rs : List V) (H2 : Hp) : Prop where
  e : ∀ b o, b ≠ D → H b = some o → (∀ ps, o ≠ .tbl ps) → H2 b = some o
  t : Tabs T H2
  d : H2 D = some (.lst rs)
theorem FI.app {T : List (Addr × Str)} {H : Hp} {D : Addr} {rs : List V} {H2 H3 H4 : Hp} {x : V} (i : FI T H D rs H2) (e3 : ExtN H2 H3) (T3 : Tabs T H3) (s4 : Same H3 H4) : H4 D = some (.lst rs) ∧ FI T H D (rs ++ [x]) (upd H4 D (.lst (rs ++ [x]))) := by
  have h4 : H4 D = some (.lst rs) := s4 _ _ (e3 _ _ i.d (by intro ps z; cases z))
  refine ⟨h4, fun b o hb e nt => ?_, Tabs_putL (T3.ext s4) h4, upd_same⟩
  rw [upd_ne hb]
  exact s4 _ _ (e3 _ _ (i.e b o hb e nt) nt)
theorem FI.list {T : List (Addr × Str)} {H : Hp} {D : Addr} {rs ws : List V} {H2 : Hp} {L : Addr} (i : FI T H D rs H2) (hL : H L = some (.lst ws)) (ne : L ≠ D) : H2 L = some (.lst ws) := i.e _ _ ne hL (by intro ps z; cases z)
/-- what is wanted of an error that is caught and named -/
def EDue (K : PySem.W.Frag) (Q : VK) : XK := fun cls dd H' => ∃ b, PySem.W.exmOne K cls (.ref (He.ga K "NetError")) = some b ∧ (b = true → ∀ a, H' a = none → (fun (r : V) (H1 : Hp) => ∃ a d, r = .ref a ∧ HeldE K d H1 a ∧ ∀ r' H', Same H1 H' → Ans H' d r' → Q r' H') (.ref a) (upd H' a (ExV cls dd a))) ∧ (b = false → False)
theorem told_due (N : TxN K mg) {d : DueE} {H : Hp} {Q : VK} (q : ∀ r H', Same H H' → Ans H' d r → Q r H') : d.out K H (EDue K Q) := by
  cases d with
  | num p => exact fun dd H' s hd => ⟨true, N.exm _ (dCls_mem (.num p)), fun _ a ha => ⟨a, .num p, rfl, ⟨some dd, upd_same, .inr ⟨dd, rfl, by rw [upd_ne (ne_of_none hd ha)]; exact hd⟩⟩, fun r H'' s2 an => q r H'' ((s.trans (Same.upd ha)).trans s2) an⟩, fun z => nomatch z⟩
  | text v => exact fun dd H' s hd => ⟨true, N.exm _ (dCls_mem (.text v)), fun _ a ha => ⟨a, .text v, rfl, ⟨some dd, upd_same, .inr ⟨dd, rfl, by rw [upd_ne (ne_of_none hd ha)]; exact hd⟩⟩, fun r H'' s2 an => q r H'' ((s.trans (Same.upd ha)).trans s2) an⟩, fun z => nomatch z⟩
  | kind => exact fun H' s => ⟨true, N.exm _ (dCls_mem .kind), fun _ a ha => ⟨a, .kind, rfl, ⟨none, upd_same, .inl ⟨rfl, rfl⟩⟩, fun r H'' s2 an => q r H'' ((s.trans (Same.upd ha)).trans s2) an⟩, fun z => nomatch z⟩
  | states => exact fun H' s => ⟨true, N.exm _ (dCls_mem .states), fun _ a ha => ⟨a, .states, rfl, ⟨none, upd_same, .inl ⟨rfl, rfl⟩⟩, fun r H'' s2 an => q r H'' ((s.trans (Same.upd ha)).trans s2) an⟩, fun z => nomatch z⟩
  | edit => exact fun H' s => ⟨true, N.exm _ (dCls_mem .edit), fun _ a ha => ⟨a, .edit, rfl, ⟨none, upd_same, .inl ⟨rfl, rfl⟩⟩, fun r H'' s2 an => q r H'' ((s.trans (Same.upd ha)).trans s2) an⟩, fun z => nomatch z⟩
  | done => exact fun H' s => ⟨true, N.exm _ (dCls_mem .done), fun _ a ha => ⟨a, .done, rfl, ⟨none, upd_same, .inl ⟨rfl, rfl⟩⟩, fun r H'' s2 an => q r H'' ((s.trans (Same.upd ha)).trans s2) an⟩, fun z => nomatch z⟩
  | undone => exact fun H' s => ⟨true, N.exm _ (dCls_mem .undone), fun _ a ha => ⟨a, .undone, rfl, ⟨none, upd_same, .inl ⟨rfl, rfl⟩⟩, fun r H'' s2 an => q r H'' ((s.trans (Same.upd ha)).trans s2) an⟩, fun z => nomatch z⟩
  | book => exact fun H' s => ⟨true, N.exm _ (dCls_mem .book), fun _ a ha => ⟨a, .book, rfl, ⟨none, upd_same, .inl ⟨rfl, rfl⟩⟩, fun r H'' s2 an => q r H'' ((s.trans (Same.upd ha)).trans s2) an⟩, fun z => nomatch z⟩
/-- the def at f: fails with d where R holds of what it gets -/
def Wk (P : Program) (w : World) (K : PySem.W.Frag) (mg : Str → Option Value) (base : Heap) (d : DueE) (R : Hp → List V → Prop) (v : V) : Prop := ∃ f sp, v = .ref f ∧ HeldX P w K mg base (L2.CX P w) 8 f sp ∧ ∀ vs H Q E, R H vs → d.out K H E → sp vs H Q E
def RO (n : Nat) : Hp → List V → Prop := fun _ vs => ∃ v, vs = List.replicate n v ∧ Odd v
theorem FI.ext {T : List (Addr × Str)} {H : Hp} {D : Addr} {rs : List V} {H2 H3 H4 : Hp} (i : FI T H D rs H2) (e3 : ExtN H2 H3) (T3 : Tabs T H3) (s4 : Same H3 H4) : FI T H D rs H4 := ⟨fun b o hb e nt => s4 _ _ (e3 _ _ (i.e b o hb e nt) nt), T3.ext s4, s4 _ _ (e3 _ _ i.d (by intro ps z; cases z))⟩
theorem FI.trans {T : List (Addr × Str)} {H H1 H2 H3 : Hp} {D : Addr} {rs rs2 : List V} (i : FI T H D rs H1) (s : Same H1 H2) (j : FI T H2 D rs2 H3) : FI T H D rs2 H3 := ⟨fun b o hb e nt => j.e b o hb (s _ _ (i.e b o hb e nt)) nt, j.t, j.d⟩
def sw : V := .str "switches"
theorem wk_spD {d : DueE} {n : Nat} {x : Str} {k : Nat} {ps : List Str} {R : List V → DueE → Prop} {G : List V → Prop} {W : Hp → List V → Prop} (F : Fnc P w K mg base (L2.CX P w) k x ps (spD R G K)) (g : mg x = some (.ref (He.ga K x))) (hk : k ≤ 8) (h : ∀ H vs, W H vs → R vs d) : Wk P w K mg base d W (.ref (He.ga K x)) :=
  ⟨_, _, rfl, (F.held g).mono hk, fun vs H Q E hw x => .inl ⟨d, h H vs hw, x⟩⟩
theorem wk_spR {d : DueE} {n : Nat} {x : Str} {k : Nat} {ps : List Str} {R : Hp → List V → DueE → Prop} {W : Hp → List V → Prop} (F : Fnc P w K mg base (L2.CX P w) k x ps (spR R K)) (g : mg x = some (.ref (He.ga K x))) (hk : k ≤ 8) (h : ∀ H vs, W H vs → R H vs d) : Wk P w K mg base d W (.ref (He.ga K x)) :=
  ⟨_, _, rfl, (F.held g).mono hk, fun vs H Q E hw x => ⟨d, h H vs hw, x⟩⟩
def spFirst (T : List (Addr × Str)) : Sp := fun vs H Q _ => ∃ v, vs = [v] ∧ Odd v ∧ Tabs T H ∧ ∀ l H', ExtN H H' → Tabs T H' → H' l = some (.lst (List.replicate 20 sw)) → Q (.ref l) H'
theorem sc_first : FnScope ["odd", "found", "work"] ["odd"] (defScope sFirst) := ⟨rfl, rfl, rfl, by decide +kernel, rfl, by decide +kernel, by decide +kernel⟩
theorem ok_first {T : List (Addr × Str)} {P1 c1 : Addr} (X : TxP P K mg) (C : TxC P K mg) (N : TxN K mg) (DF : DefT K mg "_law_first" sFirst c1) (TB : TabB base mg c1 P1) (hmT : (P1, lamQ "_law_first") ∈ T) (hu : ∀ p ∈ T, p.1 = P1 → p.2 = lamQ "_law_first") :
    Fnc P w K mg base CX0 12 "_law_first" ["odd"] (spFirst T) := by
  obtain ⟨fB, FB, hbB⟩ := ok_bInit (P := P) (w := w) (base := base) X C
  have hw0 : ∀ v ∈ [V.ref (He.ga K "most_apart"), V.ref (He.ga K "packing_bound"), V.ref (He.ga K "ball_many"), V.ref (He.ga K "full_plan"), V.ref (He.ga K "most_full"), V.ref (He.ga K "states_of_ones"), V.ref (He.ga K "greatest_crossing"), V.ref (He.ga K "fewest_chains"), V.ref (He.ga K "long_chain"), V.ref (He.ga K "layers")], Wk P w K mg base (.num "switches") (RO 2) v := by
    intro v hv
    simp only [List.mem_cons, List.not_mem_nil, or_false] at hv
    rcases hv with rfl | rfl | rfl | rfl | rfl | rfl | rfl | rfl | rfl | rfl
    · exact wk_spD (n := 0) (ok_most_apart X) X.most_apart.2 (by decide) (fun H vs ⟨v, e, o⟩ => by subst e; exact .c0 o)
    · exact wk_spD (n := 0) (ok_packing_bound X) X.packing_bound.2 (by decide) (fun H vs ⟨v, e, o⟩ => by subst e; exact .c0 o)
    · exact wk_spD (n := 0) (ok_ball_many X) X.ball_many.2 (by decide) (fun H vs ⟨v, e, o⟩ => by subst e; exact .c0 o)
    · exact wk_spD (n := 0) (ok_full_plan X) X.full_plan.2 (by decide) (fun H vs ⟨v, e, o⟩ => by subst e; exact .c0 o)
    · exact wk_spD (n := 0) (ok_most_full X) X.most_full.2 (by decide) (fun H vs ⟨v, e, o⟩ => by subst e; exact .c0 o)
    · exact wk_spD (n := 0) (ok_states_of_ones X) X.states_of_ones.2 (by decide) (fun H vs ⟨v, e, o⟩ => by subst e; exact .c0 o)
    · exact wk_spR (n := 0) (ok_greatest_crossing X) X.greatest_crossing.2 (by decide) (fun H vs ⟨v, e, o⟩ => by subst e; exact .c0 o)
    · exact wk_spR (n := 0) (ok_fewest_chains X) X.fewest_chains.2 (by decide) (fun H vs ⟨v, e, o⟩ => by subst e; exact .c0 o)
    · exact wk_spR (n := 0) (ok_long_chain X) X.long_chain.2 (by decide) (fun H vs ⟨v, e, o⟩ => by subst e; exact .c0 o)
    · exact wk_spR (n := 0) (ok_layers X) X.layers.2 (by decide) (fun H vs ⟨v, e, o⟩ => by subst e; exact .c0 o)
  have hw1 : ∀ v ∈ [V.ref (He.ga K "is_apart_lot"), V.ref (He.ga K "apart_paper"), V.ref (He.ga K "full_paper"), V.ref (He.ga K "crossing_paper")], Wk P w K mg base (.num "switches") (RO 3) v := by
    intro v hv
    simp only [List.mem_cons, List.not_mem_nil, or_false] at hv
    rcases hv with rfl | rfl | rfl | rfl
    · exact wk_spD (n := 0) (ok_is_apart_lot X) X.is_apart_lot.2 (by decide) (fun H vs ⟨v, e, o⟩ => by subst e; exact .c0 o)
    · exact wk_spD (n := 0) (ok_apart_paper X) X.apart_paper.2 (by decide) (fun H vs ⟨v, e, o⟩ => by subst e; exact .c0 o)
    · exact wk_spD (n := 0) (ok_full_paper X) X.full_paper.2 (by decide) (fun H vs ⟨v, e, o⟩ => by subst e; exact .c0 o)
    · exact wk_spR (n := 0) (ok_crossing_paper X) X.crossing_paper.2 (by decide) (fun H vs ⟨v, e, o⟩ => by subst e; exact .c0 o)
  have hw2 : ∀ v ∈ [V.ref (He.ga K "is_apart_paper"), V.ref (He.ga K "is_full_paper"), V.ref (He.ga K "is_crossing_paper")], Wk P w K mg base (.num "switches") (RO 4) v := by
    intro v hv
    simp only [List.mem_cons, List.not_mem_nil, or_false] at hv
    rcases hv with rfl | rfl | rfl
    · exact wk_spD (n := 0) (ok_is_apart_paper X) X.is_apart_paper.2 (by decide) (fun H vs ⟨v, e, o⟩ => by subst e; exact .c0 o)
    · exact wk_spD (n := 0) (ok_is_full_paper X) X.is_full_paper.2 (by decide) (fun H vs ⟨v, e, o⟩ => by subst e; exact .c0 o)
    · exact wk_spR (n := 0) (ok_is_crossing_paper X) X.is_crossing_paper.2 (by decide) (fun H vs ⟨v, e, o⟩ => by subst e; exact .mk (.c0 o))
  have hw3 : ∀ v ∈ [V.ref (He.ga K "even_net"), V.ref (He.ga K "middle_net")], Wk P w K mg base (.num "switches") (RO 1) v := by
    intro v hv
    simp only [List.mem_cons, List.not_mem_nil, or_false] at hv
    rcases hv with rfl | rfl
    · exact wk_spD (n := 0) (ok_even_net X) X.even_net.2 (by decide) (fun H vs ⟨v, e, o⟩ => by subst e; exact .c0 o)
    · exact wk_spD (n := 0) (ok_middle_net X) X.middle_net.2 (by decide) (fun H vs ⟨v, e, o⟩ => by subst e; exact .c0 o)
  refine fncT' DF sc_first (fun vs H Q E h => ?_) (fun _ _ _ _ _ _ us hl => match us, hl with | [_], _ => rfl) (fun A outer s H vs Q E hr h => ?_)
  · obtain ⟨v, rfl, _⟩ := h
    rfl
  · obtain ⟨v, rfl, o, hT, k⟩ := h
    refine ⟨_, pss_cons (ps_set (i := 1) sc_first.nd rfl (Or.inl rfl) (pe_lst pa_nil))
      (pss_cons (ps_for PassesOwn.never rfl (pi_list (pe_lst (pa_cons (pe_glob (v := .ref (He.ga K "most_apart")) (by rfl) X.most_apart.2 rfl) (pa_cons (pe_glob (v := .ref (He.ga K "packing_bound")) (by rfl) X.packing_bound.2 rfl) (pa_cons (pe_glob (v := .ref (He.ga K "ball_many")) (by rfl) X.ball_many.2 rfl) (pa_cons (pe_glob (v := .ref (He.ga K "full_plan")) (by rfl) X.full_plan.2 rfl) (pa_cons (pe_glob (v := .ref (He.ga K "most_full")) (by rfl) X.most_full.2 rfl) (pa_cons (pe_glob (v := .ref (He.ga K "states_of_ones")) (by rfl) X.states_of_ones.2 rfl) (pa_cons (pe_glob (v := .ref (He.ga K "greatest_crossing")) (by rfl) X.greatest_crossing.2 rfl) (pa_cons (pe_glob (v := .ref (He.ga K "fewest_chains")) (by rfl) X.fewest_chains.2 rfl) (pa_cons (pe_glob (v := .ref (He.ga K "long_chain")) (by rfl) X.long_chain.2 rfl) (pa_cons (pe_glob (v := .ref (He.ga K "layers")) (by rfl) X.layers.2 rfl) pa_nil)))))))))))) (pg_name (i := 2) sc_first.nd rfl (Or.inr rfl))
        (pss_one (ps_expr (pe_bm PySem.F.plainAttrs_list PySem.F.slot_list_append PySem.F.type_list_append mt_append (pv 1) (pa_cons
          (pe_lam1 (T := T) (Pt := P1) (j := 2) (k := 8) (t := fun E => tCallW P w K mg base (L2.CX P w) 8 2 E (tCons (tVar 0) (tCons (tVar 0) tNil))) (takes_told X N 9) N.told.2 (kp_told N) TB rfl hmT hu hr (lamS_by (sc := defScope sFirst) (by decide +kernel))
            (fun A outer s H E f c' hr2 => pe_callW hr2 rfl (by first | exact Or.inl rfl | exact Or.inr (Or.inl rfl) | exact Or.inr (Or.inr rfl)) (passes_call (takes_of rfl rfl rfl rfl) (fun _ _ _ _ h => h)) (pa_cons (pv 0) (pa_cons (pv 0) pa_nil)))) pa_nil)))))
      (pss_cons (ps_for PassesOwn.never rfl (pi_list (pe_lst (pa_cons (pe_glob (v := .ref (He.ga K "is_apart_lot")) (by rfl) X.is_apart_lot.2 rfl) (pa_cons (pe_glob (v := .ref (He.ga K "apart_paper")) (by rfl) X.apart_paper.2 rfl) (pa_cons (pe_glob (v := .ref (He.ga K "full_paper")) (by rfl) X.full_paper.2 rfl) (pa_cons (pe_glob (v := .ref (He.ga K "crossing_paper")) (by rfl) X.crossing_paper.2 rfl) pa_nil)))))) (pg_name (i := 2) sc_first.nd rfl (Or.inr rfl))
        (pss_one (ps_expr (pe_bm PySem.F.plainAttrs_list PySem.F.slot_list_append PySem.F.type_list_append mt_append (pv 1) (pa_cons
          (pe_lam1 (T := T) (Pt := P1) (j := 2) (k := 8) (t := fun E => tCallW P w K mg base (L2.CX P w) 8 2 E (tCons (tVar 0) (tCons (tVar 0) (tCons (tVar 0) tNil)))) (takes_told X N 9) N.told.2 (kp_told N) TB rfl hmT hu hr (lamS_by (sc := defScope sFirst) (by decide +kernel))
            (fun A outer s H E f c' hr2 => pe_callW hr2 rfl (by first | exact Or.inl rfl | exact Or.inr (Or.inl rfl) | exact Or.inr (Or.inr rfl)) (passes_call (takes_of rfl rfl rfl rfl) (fun _ _ _ _ h => h)) (pa_cons (pv 0) (pa_cons (pv 0) (pa_cons (pv 0) pa_nil))))) pa_nil)))))
      (pss_cons (ps_for PassesOwn.never rfl (pi_list (pe_lst (pa_cons (pe_glob (v := .ref (He.ga K "is_apart_paper")) (by rfl) X.is_apart_paper.2 rfl) (pa_cons (pe_glob (v := .ref (He.ga K "is_full_paper")) (by rfl) X.is_full_paper.2 rfl) (pa_cons (pe_glob (v := .ref (He.ga K "is_crossing_paper")) (by rfl) X.is_crossing_paper.2 rfl) pa_nil))))) (pg_name (i := 2) sc_first.nd rfl (Or.inr rfl))
        (pss_one (ps_expr (pe_bm PySem.F.plainAttrs_list PySem.F.slot_list_append PySem.F.type_list_append mt_append (pv 1) (pa_cons
          (pe_lam1 (T := T) (Pt := P1) (j := 2) (k := 8) (t := fun E => tCallW P w K mg base (L2.CX P w) 8 2 E (tCons (tVar 0) (tCons (tVar 0) (tCons (tVar 0) (tCons (tVar 0) tNil))))) (takes_told X N 9) N.told.2 (kp_told N) TB rfl hmT hu hr (lamS_by (sc := defScope sFirst) (by decide +kernel))
            (fun A outer s H E f c' hr2 => pe_callW hr2 rfl (by first | exact Or.inl rfl | exact Or.inr (Or.inl rfl) | exact Or.inr (Or.inr rfl)) (passes_call (takes_of rfl rfl rfl rfl) (fun _ _ _ _ h => h)) (pa_cons (pv 0) (pa_cons (pv 0) (pa_cons (pv 0) (pa_cons (pv 0) pa_nil)))))) pa_nil)))))
      (pss_cons (ps_for PassesOwn.never rfl (pi_list (pe_lst (pa_cons (pe_glob (v := .ref (He.ga K "even_net")) (by rfl) X.even_net.2 rfl) (pa_cons (pe_glob (v := .ref (He.ga K "middle_net")) (by rfl) X.middle_net.2 rfl) pa_nil)))) (pg_name (i := 2) sc_first.nd rfl (Or.inr rfl))
        (pss_one (ps_expr (pe_bm PySem.F.plainAttrs_list PySem.F.slot_list_append PySem.F.type_list_append mt_append (pv 1) (pa_cons
          (pe_lam1 (T := T) (Pt := P1) (j := 2) (k := 8) (t := fun E => tCallW P w K mg base (L2.CX P w) 8 2 E (tCons (tVar 0) tNil)) (takes_told X N 9) N.told.2 (kp_told N) TB rfl hmT hu hr (lamS_by (sc := defScope sFirst) (by decide +kernel))
            (fun A outer s H E f c' hr2 => pe_callW hr2 rfl (by first | exact Or.inl rfl | exact Or.inr (Or.inl rfl) | exact Or.inr (Or.inr rfl)) (passes_call (takes_of rfl rfl rfl rfl) (fun _ _ _ _ h => h)) (pa_cons (pv 0) pa_nil))) pa_nil)))))
      (pss_one (ps_ret (pe_op op_cat (pv 1) (pe_lst (pa_cons (pe_lam1 (T := T) (Pt := P1) (j := 2) (k := 8) (t := fun E => tMake (cB K) (spBInit K) [] E (tCons (tVar 0) tNil)) (takes_told X N 9) N.told.2 (kp_told N) TB rfl hmT hu hr (lamS_by (sc := defScope sFirst) (by decide +kernel))
            (fun A outer s H E f c' hr2 => pe_make C.bMk FB (hr2.mono (by decide)) (by rfl) C.bGlo hbB .nil (passes_call (takes_of rfl rfl rfl rfl) (fun _ _ _ _ h => h)) (pa_cons (pv 0) pa_nil))) pa_nil))))))))), ?_⟩
    refine ⟨by decide, fun D hD => ?_⟩
    have sD : Same H (upd H D (.lst [])) := Same.upd hD
    have f0 : FI T (upd H D (.lst [])) D (List.replicate 0 sw) (upd H D (.lst [])) := ⟨fun _ _ _ e _ => e, hT.ext sD, upd_same⟩
    refine ⟨(by show 10 ≤ sizeLine; decide), fun L0 hL0 => ?_⟩
    generalize hg0 : [V.ref (He.ga K "most_apart"), V.ref (He.ga K "packing_bound"), V.ref (He.ga K "ball_many"), V.ref (He.ga K "full_plan"), V.ref (He.ga K "most_full"), V.ref (He.ga K "states_of_ones"), V.ref (He.ga K "greatest_crossing"), V.ref (He.ga K "fewest_chains"), V.ref (He.ga K "long_chain"), V.ref (He.ga K "layers")] = ws0 at hw0
    have sL0 : Same (upd H D (.lst [])) (upd (upd H D (.lst [])) L0 (.lst ws0)) := Same.upd hL0
    have hwl0 : ws0.length = 10 := by rw [← hg0]; rfl
    have LD0 : L0 ≠ D := (ne_of_none f0.d hL0).symm
    refine ⟨L0, rfl, ⟨_, SqL.of upd_same⟩, ?_⟩
    show ∃ W, _ ∧ _
    try rw [hg0]
    refine for_list (K := K) (a := L0) (xs := ws0) (fun i σ H2 => (∃ u, σ = [some v, some (.ref D), u]) ∧ FI T (upd (upd H D (.lst [])) L0 (.lst ws0)) D (List.replicate (0 + i) sw) H2) ⟨⟨_, rfl⟩, fun _ _ _ e _ => e, f0.t.ext sL0, sL0 _ _ f0.d⟩ (fun i σ H2 _ h => SqL.of (h.2.list upd_same LD0)) ?_ ?_
    · rintro i x σ H2 hx ⟨⟨u, rfl⟩, fi⟩
      obtain ⟨f, sp, rfl, hf, hsp⟩ := hw0 x (List.mem_of_getElem? hx)
      have hi := (List.getElem?_eq_some_iff.mp hx).1
      refine ⟨_, rfl, .inl ⟨rfl, _, SqL.of fi.d⟩, ?_⟩
      refine ⟨fi.t, fun H3 e3 T3 => ?_⟩
      refine ⟨f, sp, rfl, hf, _, rfl, _, rfl, ?_⟩
      refine hsp _ _ _ _ ⟨v, rfl, o⟩ (told_due N fun r H4 s4 an => ?_)
      subst an
      obtain ⟨h4, fj⟩ := fi.app (x := sw) e3 T3 s4
      refine ⟨D, _, _, rfl, rfl, h4, small1000 (by rw [List.length_replicate]; omega), ?_⟩
      exact ⟨⟨_, rfl⟩, by rw [← Nat.add_assoc, List.replicate_succ']; exact fj⟩
    · rintro σ G0 ⟨⟨u0, rfl⟩, fe0⟩
      rw [hwl0] at fe0
      have f1 : FI T (upd H D (.lst [])) D (List.replicate 10 sw) G0 := f0.trans sL0 fe0
      refine ⟨(by show 4 ≤ sizeLine; decide), fun L1 hL1 => ?_⟩
      generalize hg1 : [V.ref (He.ga K "is_apart_lot"), V.ref (He.ga K "apart_paper"), V.ref (He.ga K "full_paper"), V.ref (He.ga K "crossing_paper")] = ws1 at hw1
      have sL1 : Same G0 (upd G0 L1 (.lst ws1)) := Same.upd hL1
      have hwl1 : ws1.length = 4 := by rw [← hg1]; rfl
      have LD1 : L1 ≠ D := (ne_of_none f1.d hL1).symm
      refine ⟨L1, rfl, ⟨_, SqL.of upd_same⟩, ?_⟩
      show ∃ W, _ ∧ _
      try rw [hg1]
      refine for_list (K := K) (a := L1) (xs := ws1) (fun i σ H2 => (∃ u, σ = [some v, some (.ref D), u]) ∧ FI T (upd G0 L1 (.lst ws1)) D (List.replicate (10 + i) sw) H2) ⟨⟨_, rfl⟩, fun _ _ _ e _ => e, f1.t.ext sL1, sL1 _ _ f1.d⟩ (fun i σ H2 _ h => SqL.of (h.2.list upd_same LD1)) ?_ ?_
      · rintro i x σ H2 hx ⟨⟨u, rfl⟩, fi⟩
        obtain ⟨f, sp, rfl, hf, hsp⟩ := hw1 x (List.mem_of_getElem? hx)
        have hi := (List.getElem?_eq_some_iff.mp hx).1
        refine ⟨_, rfl, .inl ⟨rfl, _, SqL.of fi.d⟩, ?_⟩
        refine ⟨fi.t, fun H3 e3 T3 => ?_⟩
        refine ⟨f, sp, rfl, hf, _, rfl, _, rfl, _, rfl, ?_⟩
        refine hsp _ _ _ _ ⟨v, rfl, o⟩ (told_due N fun r H4 s4 an => ?_)
        subst an
        obtain ⟨h4, fj⟩ := fi.app (x := sw) e3 T3 s4
        refine ⟨D, _, _, rfl, rfl, h4, small1000 (by rw [List.length_replicate]; omega), ?_⟩
        exact ⟨⟨_, rfl⟩, by rw [← Nat.add_assoc, List.replicate_succ']; exact fj⟩
      · rintro σ G1 ⟨⟨u1, rfl⟩, fe1⟩
        rw [hwl1] at fe1
        have f2 : FI T (upd H D (.lst [])) D (List.replicate 14 sw) G1 := f1.trans sL1 fe1
        refine ⟨(by show 3 ≤ sizeLine; decide), fun L2 hL2 => ?_⟩
        generalize hg2 : [V.ref (He.ga K "is_apart_paper"), V.ref (He.ga K "is_full_paper"), V.ref (He.ga K "is_crossing_paper")] = ws2 at hw2
        have sL2 : Same G1 (upd G1 L2 (.lst ws2)) := Same.upd hL2
        have hwl2 : ws2.length = 3 := by rw [← hg2]; rfl
        have LD2 : L2 ≠ D := (ne_of_none f2.d hL2).symm
        refine ⟨L2, rfl, ⟨_, SqL.of upd_same⟩, ?_⟩
        show ∃ W, _ ∧ _
        try rw [hg2]
        refine for_list (K := K) (a := L2) (xs := ws2) (fun i σ H2 => (∃ u, σ = [some v, some (.ref D), u]) ∧ FI T (upd G1 L2 (.lst ws2)) D (List.replicate (14 + i) sw) H2) ⟨⟨_, rfl⟩, fun _ _ _ e _ => e, f2.t.ext sL2, sL2 _ _ f2.d⟩ (fun i σ H2 _ h => SqL.of (h.2.list upd_same LD2)) ?_ ?_
        · rintro i x σ H2 hx ⟨⟨u, rfl⟩, fi⟩
          obtain ⟨f, sp, rfl, hf, hsp⟩ := hw2 x (List.mem_of_getElem? hx)
          have hi := (List.getElem?_eq_some_iff.mp hx).1
          refine ⟨_, rfl, .inl ⟨rfl, _, SqL.of fi.d⟩, ?_⟩
          refine ⟨fi.t, fun H3 e3 T3 => ?_⟩
          refine ⟨f, sp, rfl, hf, _, rfl, _, rfl, _, rfl, _, rfl, ?_⟩
          refine hsp _ _ _ _ ⟨v, rfl, o⟩ (told_due N fun r H4 s4 an => ?_)
          subst an
          obtain ⟨h4, fj⟩ := fi.app (x := sw) e3 T3 s4
          refine ⟨D, _, _, rfl, rfl, h4, small1000 (by rw [List.length_replicate]; omega), ?_⟩
          exact ⟨⟨_, rfl⟩, by rw [← Nat.add_assoc, List.replicate_succ']; exact fj⟩
        · rintro σ G2 ⟨⟨u2, rfl⟩, fe2⟩
          rw [hwl2] at fe2
          have f3 : FI T (upd H D (.lst [])) D (List.replicate 17 sw) G2 := f2.trans sL2 fe2
          refine ⟨(by show 2 ≤ sizeLine; decide), fun L3 hL3 => ?_⟩
          generalize hg3 : [V.ref (He.ga K "even_net"), V.ref (He.ga K "middle_net")] = ws3 at hw3
          have sL3 : Same G2 (upd G2 L3 (.lst ws3)) := Same.upd hL3
          have hwl3 : ws3.length = 2 := by rw [← hg3]; rfl
          have LD3 : L3 ≠ D := (ne_of_none f3.d hL3).symm
          refine ⟨L3, rfl, ⟨_, SqL.of upd_same⟩, ?_⟩
          show ∃ W, _ ∧ _
          try rw [hg3]
          refine for_list (K := K) (a := L3) (xs := ws3) (fun i σ H2 => (∃ u, σ = [some v, some (.ref D), u]) ∧ FI T (upd G2 L3 (.lst ws3)) D (List.replicate (17 + i) sw) H2) ⟨⟨_, rfl⟩, fun _ _ _ e _ => e, f3.t.ext sL3, sL3 _ _ f3.d⟩ (fun i σ H2 _ h => SqL.of (h.2.list upd_same LD3)) ?_ ?_
          · rintro i x σ H2 hx ⟨⟨u, rfl⟩, fi⟩
            obtain ⟨f, sp, rfl, hf, hsp⟩ := hw3 x (List.mem_of_getElem? hx)
            have hi := (List.getElem?_eq_some_iff.mp hx).1
            refine ⟨_, rfl, .inl ⟨rfl, _, SqL.of fi.d⟩, ?_⟩
            refine ⟨fi.t, fun H3 e3 T3 => ?_⟩
            refine ⟨f, sp, rfl, hf, _, rfl, ?_⟩
            refine hsp _ _ _ _ ⟨v, rfl, o⟩ (told_due N fun r H4 s4 an => ?_)
            subst an
            obtain ⟨h4, fj⟩ := fi.app (x := sw) e3 T3 s4
            refine ⟨D, _, _, rfl, rfl, h4, small1000 (by rw [List.length_replicate]; omega), ?_⟩
            exact ⟨⟨_, rfl⟩, by rw [← Nat.add_assoc, List.replicate_succ']; exact fj⟩
          · rintro σ G3 ⟨⟨u3, rfl⟩, fe3⟩
            rw [hwl3] at fe3
            have f4 : FI T (upd H D (.lst [])) D (List.replicate 19 sw) G3 := f3.trans sL3 fe3
            refine ⟨_, rfl, ?_⟩
            refine ⟨f4.t, fun H3 e3 T3 => ?_⟩
            refine ⟨_, rfl, fun x dx hx hdx hne => ⟨x, dx, v, rfl, upd_same, .inl ⟨o, ?_⟩⟩⟩
            have hx' : (upd H3 dx (.own x)) x = none := by rw [upd_ne (Ne.symm hne)]; exact hx
            refine DueE.same (K := K) (d := .num "switches") (told_due N fun r H4 s4 an => ?_) ((Same.upd hdx).trans (Same.upd hx'))
            subst an
            have f5 := f4.ext e3 T3 s4
            refine ⟨(by show 1 ≤ sizeLine; decide), fun q hq => ?_⟩
            have sq : Same H4 (upd H4 q (.lst [sw])) := Same.upd hq
            refine ⟨D, q, _, _, rfl, rfl, sq _ _ f5.d, upd_same, (by rw [List.length_replicate]; show 20 ≤ sizeLine; decide), fun p hp => ?_⟩
            have sp : Same H4 (upd (upd H4 q (.lst [sw])) p (.lst (List.replicate 19 sw ++ [sw]))) := sq.trans (Same.upd hp)
            refine k p _ (fun b ob hb nt => sp _ _ (f5.e b ob (ne_of_none hb hD) (sD _ _ hb) nt)) (f5.t.ext sp) (by rw [upd_same]; rfl)
end
end K5
set_option maxHeartbeats 4000000
namespace K5
open PySem L2 PySem.EX PyProof.Rows
open LamX (Tabs ExtN TabB LamS lamEnv lamCx lamS_by run_ofS CodeO)
section
variable {P : Program} {w : World} {K : PySem.W.Frag} {mg : Str → Option Value} {base : Heap}
/-- the values that the law takes -/
inductive OddL : V → Prop where
  | non : OddL .non
  | x : OddL (.str "x")
  | big : OddL (.int 99)
  | neg : OddL (.int (-5))
theorem OddL.odd {v : V} (h : OddL v) : Odd v := by
  cases h
  · exact .non
  · exact .str _
  · exact .int _ (.inr (by decide))
  · exact .int _ (.inl (by decide))
theorem OddL.kind {v : V} (h : OddL v) : OddK v := by
  refine ⟨h.odd, ?_, ?_, ?_⟩ <;> (cases h <;> intro z <;> first | (cases z; done) | exact absurd (V.str.inj z) (by decide +kernel))
def txts : List V := [.str "number", .str "number", .str "radius", .str "kind", .str "kind", .str "ones", .str "states", .str "states", .str "states", .str "states", .str "number", .str "kind", .str "states", .str "many", .str "many", .str "number", .str "number", .str "kind", .str "states", .str "edit", .str "edit", .str "edit", .str "edit", .str "done", .str "undone", .str "book"]
def spBehind (T : List (Addr × Str)) : Sp := fun vs H Q _ => ∃ v, vs = [v] ∧ OddL v ∧ Tabs T H ∧ ∀ l t0 t1 t2 t3 H', ExtN H H' → Tabs T H' → H' l = some (.lst (txts ++ [.ref t0, .ref t1, .ref t2, .ref t3])) → H' t0 = some (.tup [.str "text", .non]) → H' t1 = some (.tup [.str "text", .int 0]) → H' t2 = some (.tup [.str "text", .int 1]) → H' t3 = some (.tup [.str "text", .int 2]) → Q (.ref l) H'
theorem sc_behind : FnScope ["odd", "found", "book", "work"] ["odd"] (defScope sBehind) := ⟨rfl, rfl, rfl, by decide +kernel, rfl, by decide +kernel, by decide +kernel⟩
theorem kept_same {H H3 : Hp} {bk dx : Addr} {o1 o2 : HO} (hbk : H bk = none) (hdx : H dx = none) (kp : Kept bk (upd (upd H dx o1) bk o2) H3) : Same H H3 := fun c o hc => by
  have n1 := ne_of_none hc hbk
  have n2 := ne_of_none hc hdx
  exact kp _ _ n1 (by rw [upd_ne n1, upd_ne n2]; exact hc)
theorem Book0_ext {H H' : Hp} {b : Addr} (h : Book0 K H b) (e : ExtN H H') : Book0 K H' b := by
  obtain ⟨dx, l1, l2, l3, x, h1, h2, h3, h4, dp, t, h5, h6⟩ := h
  have n : ∀ {c : Addr} {o : HO}, H c = some o → (∀ ps, o ≠ .tbl ps) → H' c = some o := fun hc hn => e _ _ hc hn
  exact ⟨dx, l1, l2, l3, x, n h1 (by intro ps z; cases z), n h2 (by intro ps z; cases z), n h3 (by intro ps z; cases z), n h4 (by intro ps z; cases z), dp, t, n h5 (by intro ps z; cases z), n h6 (by intro ps z; cases z)⟩
theorem Book0_putD {H : Hp} {b D : Addr} {a : Str} {rs : List V} {o : HO} (h : Book0 K H b) (hD : H D = some (.lst rs)) (hh : rs.head? = some (.str a)) : Book0 K (upd H D o) b := by
  obtain ⟨dx, l1, l2, l3, x, h1, h2, h3, h4, dp, t, h5, h6⟩ := h
  have n : ∀ {c : Addr} {o' : HO}, H c = some o' → o' ≠ .lst rs → upd H D o c = some o' := fun hc hn => by
    rw [upd_ne (ne_of hc hD hn)]
    exact hc
  exact ⟨dx, l1, l2, l3, x, n h1 (by intro z; cases z), n h2 (by intro z; cases z; cases hh), n h3 (by intro z; cases z; cases hh), n h4 (by intro z; cases z; cases hh), dp, t, n h5 (by intro z; cases z), n h6 (by intro z; cases z)⟩
theorem Book0_app {H2 H3 H4 : Hp} {b D : Addr} {a : Str} {rs : List V} {o : HO} (h : Book0 K H2 b) (e3 : ExtN H2 H3) (s4 : Same H3 H4) (hD : H4 D = some (.lst rs)) (hh : rs.head? = some (.str a)) : Book0 K (upd H4 D o) b := Book0_putD ((Book0_ext h e3).same s4) hD hh
theorem rd_arg {v : V} {σ : L2.St} {H : Hp} {Q : VK} (o : OddL v) (hσ : σ[0]? = some (some v)) (h : ∀ u ty, TyX K H u ty → PySem.W.kitOne K ty (.type "str") = some false → Q u H) : tIf (tTest (tOp rNe (tVar 0) (tC (.str "x")))) (tVar 0) (tC .non) σ H Q := by
  refine ⟨_, hσ, ?_⟩
  cases o with
  | non =>
    refine ⟨rfl, _, rfl, ?_⟩
    rw [show decide (V.non = V.str (Str.ofString "x")) = false by decide +kernel]
    exact iteT ⟨_, hσ, h _ _ (.base .non) (by with_unfolding_all rfl)⟩
  | x =>
    refine ⟨rfl, _, rfl, ?_⟩
    rw [show decide (V.str (Str.ofString "x") = V.str (Str.ofString "x")) = true by decide +kernel]
    exact iteF (h _ _ (.base .non) (by with_unfolding_all rfl))
  | big =>
    refine ⟨rfl, _, rfl, ?_⟩
    rw [show decide (V.int 99 = V.str (Str.ofString "x")) = false by decide +kernel]
    exact iteT ⟨_, hσ, h _ _ (.base (.int _)) (by with_unfolding_all rfl)⟩
  | neg =>
    refine ⟨rfl, _, rfl, ?_⟩
    rw [show decide (V.int (-5) = V.str (Str.ofString "x")) = false by decide +kernel]
    exact iteT ⟨_, hσ, h _ _ (.base (.int _)) (by with_unfolding_all rfl)⟩
/-- the works and what they answer -/
def WkL (P : Program) (w : World) (K : PySem.W.Frag) (mg : Str → Option Value) (base : Heap) (R : Hp → List V → Prop) (ws as : List V) : Prop := ∀ (i : Nat) (x : V), ws[i]? = some x → ∃ (d : DueE) (a : V), as[i]? = some a ∧ Wk P w K mg base d R x ∧ ∀ H r, Ans H d r → r = a
def as0 : List V := [.str "kind", .str "kind", .str "ones", .str "states", .str "states", .str "states", .str "states"]
def as1 : List V := [.str "number", .str "kind", .str "states"]
theorem sw2 : Sw (.int 2) := .mk 2 (by decide) (by decide)
theorem sw1 : Sw (.int 1) := .mk 1 (by decide) (by decide)
theorem wkL0 (X : TxP P K mg) : WkL P w K mg base (fun _ vs => ∃ v, vs = [.int 2, v] ∧ OddK v) [.ref (He.ga K "full_plan"), .ref (He.ga K "most_full"), .ref (He.ga K "states_of_ones"), .ref (He.ga K "greatest_crossing"), .ref (He.ga K "fewest_chains"), .ref (He.ga K "long_chain"), .ref (He.ga K "layers")] as0 := by
  intro i x hx
  match i, hx with
  | 0, hx => cases hx; exact ⟨.kind, _, rfl, wk_spD (n := 0) (ok_full_plan X) X.full_plan.2 (by decide) (fun H vs ⟨v, e, o⟩ => by subst e; exact .c1 sw2 o), fun _ _ h => h⟩
  | 1, hx => cases hx; exact ⟨.kind, _, rfl, wk_spD (n := 0) (ok_most_full X) X.most_full.2 (by decide) (fun H vs ⟨v, e, o⟩ => by subst e; exact .c1 sw2 o), fun _ _ h => h⟩
  | 2, hx => cases hx; exact ⟨.num "ones", _, rfl, wk_spD (n := 0) (ok_states_of_ones X) X.states_of_ones.2 (by decide) (fun H vs ⟨v, e, o⟩ => by subst e; exact .c1 sw2 o.o), fun _ _ h => h⟩
  | 3, hx => cases hx; exact ⟨.states, _, rfl, wk_spR (n := 0) (ok_greatest_crossing X) X.greatest_crossing.2 (by decide) (fun H vs ⟨v, e, o⟩ => by subst e; exact .c1 sw2 o.o), fun _ _ h => h⟩
  | 4, hx => cases hx; exact ⟨.states, _, rfl, wk_spR (n := 0) (ok_fewest_chains X) X.fewest_chains.2 (by decide) (fun H vs ⟨v, e, o⟩ => by subst e; exact .c1 sw2 o.o), fun _ _ h => h⟩
  | 5, hx => cases hx; exact ⟨.states, _, rfl, wk_spR (n := 0) (ok_long_chain X) X.long_chain.2 (by decide) (fun H vs ⟨v, e, o⟩ => by subst e; exact .c1 sw2 o.o), fun _ _ h => h⟩
  | 6, hx => cases hx; exact ⟨.states, _, rfl, wk_spR (n := 0) (ok_layers X) X.layers.2 (by decide) (fun H vs ⟨v, e, o⟩ => by subst e; exact .c1 sw2 o.o), fun _ _ h => h⟩
  | n + 7, hx => cases hx
theorem wkL1 (X : TxP P K mg) : WkL P w K mg base (fun _ vs => ∃ v, vs = [.int 2, v, v] ∧ OddK v) [.ref (He.ga K "apart_paper"), .ref (He.ga K "full_paper"), .ref (He.ga K "crossing_paper")] as1 := by
  intro i x hx
  match i, hx with
  | 0, hx => cases hx; exact ⟨.num "number", _, rfl, wk_spD (n := 0) (ok_apart_paper X) X.apart_paper.2 (by decide) (fun H vs ⟨v, e, o⟩ => by subst e; exact .c1 sw2 o.o), fun _ _ h => h⟩
  | 1, hx => cases hx; exact ⟨.kind, _, rfl, wk_spD (n := 0) (ok_full_paper X) X.full_paper.2 (by decide) (fun H vs ⟨v, e, o⟩ => by subst e; exact .c1 sw2 o), fun _ _ h => h⟩
  | 2, hx => cases hx; exact ⟨.states, _, rfl, wk_spR (n := 0) (ok_crossing_paper X) X.crossing_paper.2 (by decide) (fun H vs ⟨v, e, o⟩ => by subst e; exact .c1 sw2 o.o), fun _ _ h => h⟩
  | n + 3, hx => cases hx
theorem ok_behind {T : List (Addr × Str)} {P1 c1 : Addr} (X : TxP P K mg) (C : TxC P K mg) (B : TxB P K mg) (N : TxN K mg) (DF : DefT K mg "_law_behind" sBehind c1) (TB : TabB base mg c1 P1) (hmT : (P1, lamQ "_law_behind") ∈ T) (hu : ∀ p ∈ T, p.1 = P1 → p.2 = lamQ "_law_behind") :
    Fnc P w K mg base CX0 12 "_law_behind" ["odd"] (spBehind T) := by
  obtain ⟨fB, FB, hbB⟩ := ok_bInit (P := P) (w := w) (base := base) X C
  obtain ⟨fDo, FDo, hDo⟩ := ok_do (P := P) (w := w) (base := base) X C
  obtain ⟨fMo, FMo, hMo⟩ := ok_mostB (P := P) (w := w) (base := base) X C
  obtain ⟨fLe, FLe, hLe⟩ := ok_lets (P := P) (w := w) (base := base) X C
  obtain ⟨fUn, FUn, hUn⟩ := ok_undo (P := P) (w := w) (base := base) X C
  obtain ⟨fRe, FRe, hRe⟩ := ok_redo (P := P) (w := w) (base := base) X C
  have F_most_apart : Fnc P w K mg base (L2.CX P w) 5 "most_apart" ["switches", "number"] (spD R_most_apart G_most_apart K) := ok_most_apart X
  have F_packing_bound : Fnc P w K mg base (L2.CX P w) 5 "packing_bound" ["switches", "number"] (spD R_packing_bound G_packing_bound K) := ok_packing_bound X
  have F_ball_many : Fnc P w K mg base (L2.CX P w) 4 "ball_many" ["switches", "radius"] (spD R_ball_many G_ball_many K) := ok_ball_many X
  have F_apart_paper : Fnc P w K mg base (L2.CX P w) 5 "apart_paper" ["switches", "number", "many"] (spD R_apart_paper G_apart_paper K) := ok_apart_paper X
  have F_full_paper : Fnc P w K mg base (L2.CX P w) 5 "full_paper" ["switches", "kind", "many"] (spD R_full_paper G_full_paper K) := ok_full_paper X
  have F_crossing_paper : Fnc P w K mg base (L2.CX P w) 7 "crossing_paper" ["switches", "states", "number"] (spR (Q_need_crossing_number K) K) := ok_crossing_paper X
  have F_is_crossing_paper : Fnc P w K mg base (L2.CX P w) 7 "is_crossing_paper" ["switches", "states", "number", "thing"] (spR (Q_is_crossing_paper K) K) := ok_is_crossing_paper X
  have F_full_fits : Fnc P w K mg base (L2.CX P w) 5 "full_fits" ["kind", "one", "other"] (spR (fun _ => Q_full_fits) K) := ok_full_fits X
  have F_planbook_text : Fnc P w K mg base (L2.CX P w) 1 "planbook_text" ["book"] (spPbT K) := ok_pbText X C
  have F_read_planbook : Fnc P w K mg base (L2.CX P w) 8 "read_planbook" ["text"] (spRdB K) := ok_readPb X C B
  refine fncT' DF sc_behind (fun vs H Q E h => ?_) (fun _ _ _ _ _ _ us hl => match us, hl with | [_], _ => rfl) (fun A outer s H vs Q E hr h => ?_)
  · obtain ⟨v, rfl, _⟩ := h
    rfl
  · obtain ⟨v, rfl, o, hT, k⟩ := h
    have pE : Passes (L2.CX P w) (cxOf CX0 P w K mg base ["odd", "found", "book", "work"] "_law_behind" (defScope sBehind) (He.ga K "_law_behind") (.ref c1) A outer s H E).nox E0 := passes_call LamX.takes0 (fun _ _ _ _ h => h)
    refine ⟨_, pss_cons (ps_set (i := 1) sc_behind.nd rfl (Or.inl rfl) (pe_lst (pa_cons (pe_lam1 (T := T) (Pt := P1) (j := 2) (k := 8) (t := fun E => tFn (spD R_most_apart G_most_apart K) E (tCons (tC (.int 2)) (tCons (tVar 0) tNil))) (takes_told X N 9) N.told.2 (kp_told N) TB rfl hmT hu hr (lamS_by (sc := defScope sBehind) (by decide +kernel))
            (fun A outer s H E f c' hr2 => pe_fn F_most_apart (hr2.mono (by decide)) (passes_call (takes_of rfl rfl rfl rfl) (fun _ _ _ _ h => h)) (pa_cons pe_int (pa_cons (pv 0) pa_nil)))) (pa_cons (pe_lam1 (T := T) (Pt := P1) (j := 2) (k := 8) (t := fun E => tFn (spD R_packing_bound G_packing_bound K) E (tCons (tC (.int 2)) (tCons (tVar 0) tNil))) (takes_told X N 9) N.told.2 (kp_told N) TB rfl hmT hu hr (lamS_by (sc := defScope sBehind) (by decide +kernel))
            (fun A outer s H E f c' hr2 => pe_fn F_packing_bound (hr2.mono (by decide)) (passes_call (takes_of rfl rfl rfl rfl) (fun _ _ _ _ h => h)) (pa_cons pe_int (pa_cons (pv 0) pa_nil)))) (pa_cons (pe_lam1 (T := T) (Pt := P1) (j := 2) (k := 8) (t := fun E => tFn (spD R_ball_many G_ball_many K) E (tCons (tC (.int 2)) (tCons (tVar 0) tNil))) (takes_told X N 9) N.told.2 (kp_told N) TB rfl hmT hu hr (lamS_by (sc := defScope sBehind) (by decide +kernel))
            (fun A outer s H E f c' hr2 => pe_fn F_ball_many (hr2.mono (by decide)) (passes_call (takes_of rfl rfl rfl rfl) (fun _ _ _ _ h => h)) (pa_cons pe_int (pa_cons (pv 0) pa_nil)))) pa_nil)))))
      (pss_cons (ps_for PassesOwn.never rfl (pi_list (pe_lst (pa_cons (pe_glob (v := .ref (He.ga K "full_plan")) (by rfl) X.full_plan.2 rfl) (pa_cons (pe_glob (v := .ref (He.ga K "most_full")) (by rfl) X.most_full.2 rfl) (pa_cons (pe_glob (v := .ref (He.ga K "states_of_ones")) (by rfl) X.states_of_ones.2 rfl) (pa_cons (pe_glob (v := .ref (He.ga K "greatest_crossing")) (by rfl) X.greatest_crossing.2 rfl) (pa_cons (pe_glob (v := .ref (He.ga K "fewest_chains")) (by rfl) X.fewest_chains.2 rfl) (pa_cons (pe_glob (v := .ref (He.ga K "long_chain")) (by rfl) X.long_chain.2 rfl) (pa_cons (pe_glob (v := .ref (He.ga K "layers")) (by rfl) X.layers.2 rfl) pa_nil))))))))) (pg_name (i := 3) sc_behind.nd rfl (Or.inr rfl)) (pss_one (ps_expr (pe_bm PySem.F.plainAttrs_list PySem.F.slot_list_append PySem.F.type_list_append mt_append (pv 1) (pa_cons (pe_lam1 (T := T) (Pt := P1) (j := 2) (k := 8) (t := fun E => tCallW P w K mg base (L2.CX P w) 8 3 E (tCons (tC (.int 2)) (tCons (tVar 0) tNil))) (takes_told X N 9) N.told.2 (kp_told N) TB rfl hmT hu hr (lamS_by (sc := defScope sBehind) (by decide +kernel))
            (fun A outer s H E f c' hr2 => pe_callW hr2 rfl (by first | exact Or.inl rfl | exact Or.inr (Or.inl rfl) | exact Or.inr (Or.inr rfl)) (passes_call (takes_of rfl rfl rfl rfl) (fun _ _ _ _ h => h)) (pa_cons pe_int (pa_cons (pv 0) pa_nil)))) pa_nil)))))
      (pss_cons (ps_for PassesOwn.never rfl (pi_list (pe_lst (pa_cons (pe_glob (v := .ref (He.ga K "apart_paper")) (by rfl) X.apart_paper.2 rfl) (pa_cons (pe_glob (v := .ref (He.ga K "full_paper")) (by rfl) X.full_paper.2 rfl) (pa_cons (pe_glob (v := .ref (He.ga K "crossing_paper")) (by rfl) X.crossing_paper.2 rfl) pa_nil))))) (pg_name (i := 3) sc_behind.nd rfl (Or.inr rfl)) (pss_one (ps_expr (pe_bm PySem.F.plainAttrs_list PySem.F.slot_list_append PySem.F.type_list_append mt_append (pv 1) (pa_cons (pe_lam1 (T := T) (Pt := P1) (j := 2) (k := 8) (t := fun E => tCallW P w K mg base (L2.CX P w) 8 3 E (tCons (tC (.int 2)) (tCons (tVar 0) (tCons (tVar 0) tNil)))) (takes_told X N 9) N.told.2 (kp_told N) TB rfl hmT hu hr (lamS_by (sc := defScope sBehind) (by decide +kernel))
            (fun A outer s H E f c' hr2 => pe_callW hr2 rfl (by first | exact Or.inl rfl | exact Or.inr (Or.inl rfl) | exact Or.inr (Or.inr rfl)) (passes_call (takes_of rfl rfl rfl rfl) (fun _ _ _ _ h => h)) (pa_cons pe_int (pa_cons (pv 0) (pa_cons (pv 0) pa_nil))))) pa_nil)))))
      (pss_cons (ps_expr (pe_bm PySem.F.plainAttrs_list PySem.F.slot_list_append PySem.F.type_list_append mt_append (pv 1) (pa_cons (pe_lam1 (T := T) (Pt := P1) (j := 2) (k := 8) (t := fun E => tFn (spD R_apart_paper G_apart_paper K) E (tCons (tC (.int 2)) (tCons (tC (.int 1)) (tCons (tVar 0) tNil)))) (takes_told X N 9) N.told.2 (kp_told N) TB rfl hmT hu hr (lamS_by (sc := defScope sBehind) (by decide +kernel))
            (fun A outer s H E f c' hr2 => pe_fn F_apart_paper (hr2.mono (by decide)) (passes_call (takes_of rfl rfl rfl rfl) (fun _ _ _ _ h => h)) (pa_cons pe_int (pa_cons pe_int (pa_cons (pv 0) pa_nil))))) pa_nil)))
      (pss_cons (ps_expr (pe_bm PySem.F.plainAttrs_list PySem.F.slot_list_append PySem.F.type_list_append mt_append (pv 1) (pa_cons (pe_lam1 (T := T) (Pt := P1) (j := 2) (k := 8) (t := fun E => tFn (spD R_full_paper G_full_paper K) E (tCons (tC (.int 2)) (tCons (tC (.str "both")) (tCons (tVar 0) tNil)))) (takes_told X N 9) N.told.2 (kp_told N) TB rfl hmT hu hr (lamS_by (sc := defScope sBehind) (by decide +kernel))
            (fun A outer s H E f c' hr2 => pe_fn F_full_paper (hr2.mono (by decide)) (passes_call (takes_of rfl rfl rfl rfl) (fun _ _ _ _ h => h)) (pa_cons pe_int (pa_cons pe_str (pa_cons (pv 0) pa_nil))))) pa_nil)))
      (pss_cons (ps_expr (pe_bm PySem.F.plainAttrs_list PySem.F.slot_list_append PySem.F.type_list_append mt_append (pv 1) (pa_cons (pe_lam1 (T := T) (Pt := P1) (j := 2) (k := 8) (t := fun E => tFn (spR (Q_need_crossing_number K) K) E (tCons (tC (.int 2)) (tCons (tTup tNil) (tCons (tVar 0) tNil)))) (takes_told X N 9) N.told.2 (kp_told N) TB rfl hmT hu hr (lamS_by (sc := defScope sBehind) (by decide +kernel))
            (fun A outer s H E f c' hr2 => pe_fn F_crossing_paper (hr2.mono (by decide)) (passes_call (takes_of rfl rfl rfl rfl) (fun _ _ _ _ h => h)) (pa_cons pe_int (pa_cons (pe_tup pa_nil) (pa_cons (pv 0) pa_nil))))) pa_nil)))
      (pss_cons (ps_expr (pe_bm PySem.F.plainAttrs_list PySem.F.slot_list_append PySem.F.type_list_append mt_append (pv 1) (pa_cons (pe_lam1 (T := T) (Pt := P1) (j := 2) (k := 8) (t := fun E => tFn (spR (Q_is_crossing_paper K) K) E (tCons (tC (.int 2)) (tCons (tTup tNil) (tCons (tVar 0) (tCons (tVar 0) tNil))))) (takes_told X N 9) N.told.2 (kp_told N) TB rfl hmT hu hr (lamS_by (sc := defScope sBehind) (by decide +kernel))
            (fun A outer s H E f c' hr2 => pe_fn F_is_crossing_paper (hr2.mono (by decide)) (passes_call (takes_of rfl rfl rfl rfl) (fun _ _ _ _ h => h)) (pa_cons pe_int (pa_cons (pe_tup pa_nil) (pa_cons (pv 0) (pa_cons (pv 0) pa_nil)))))) pa_nil)))
      (pss_cons (ps_expr (pe_bm PySem.F.plainAttrs_list PySem.F.slot_list_append PySem.F.type_list_append mt_append (pv 1) (pa_cons (pe_lam1 (T := T) (Pt := P1) (j := 2) (k := 8) (t := fun E => tFn (spR (fun _ => Q_full_fits) K) E (tCons (tVar 0) (tCons (tVar 0) (tCons (tVar 0) tNil)))) (takes_told X N 9) N.told.2 (kp_told N) TB rfl hmT hu hr (lamS_by (sc := defScope sBehind) (by decide +kernel))
            (fun A outer s H E f c' hr2 => pe_fn F_full_fits (hr2.mono (by decide)) (passes_call (takes_of rfl rfl rfl rfl) (fun _ _ _ _ h => h)) (pa_cons (pv 0) (pa_cons (pv 0) (pa_cons (pv 0) pa_nil))))) pa_nil)))
      (pss_cons (ps_expr (pe_bm PySem.F.plainAttrs_list PySem.F.slot_list_append PySem.F.type_list_append mt_append (pv 1) (pa_cons (pe_lam1 (T := T) (Pt := P1) (j := 2) (k := 8) (t := fun E => tFn (spR (fun _ => Q_full_fits) K) E (tCons (tC (.str "helps")) (tCons (tVar 0) (tCons (tVar 0) tNil)))) (takes_told X N 9) N.told.2 (kp_told N) TB rfl hmT hu hr (lamS_by (sc := defScope sBehind) (by decide +kernel))
            (fun A outer s H E f c' hr2 => pe_fn F_full_fits (hr2.mono (by decide)) (passes_call (takes_of rfl rfl rfl rfl) (fun _ _ _ _ h => h)) (pa_cons pe_str (pa_cons (pv 0) (pa_cons (pv 0) pa_nil))))) pa_nil)))
      (pss_cons (ps_set (i := 2) sc_behind.nd rfl (Or.inr rfl) (pe_make (E := E0) C.bMk FB (hr.mono (by decide)) (by rfl) C.bGlo hbB .nil pE (pa_cons pe_int pa_nil)))
      (pss_cons (ps_expr (pe_bm PySem.F.plainAttrs_list PySem.F.slot_list_append PySem.F.type_list_append mt_append (pv 1) (pa_cons (pe_lam1 (T := T) (Pt := P1) (j := 2) (k := 8) (t := fun E => tMeth (cB K) "do" (spEdit K) [] E (tVar 2) (tCons (tVar 0) tNil)) (takes_told X N 9) N.told.2 (kp_told N) TB rfl hmT hu hr (lamS_by (sc := defScope sBehind) (by decide +kernel))
            (fun A outer s H E f c' hr2 => pe_meth (pv 2) C.bCls C.mDo FDo (hr2.mono (by decide)) hDo .nil (passes_call (takes_of rfl rfl rfl rfl) (fun _ _ _ _ h => h)) (pa_cons (pv 0) pa_nil))) pa_nil)))
      (pss_cons (ps_expr (pe_bm PySem.F.plainAttrs_list PySem.F.slot_list_append PySem.F.type_list_append mt_append (pv 1) (pa_cons (pe_lam1 (T := T) (Pt := P1) (j := 2) (k := 8) (t := fun E => tMeth (cB K) "most_behind" (spEdit K) [] E (tVar 2) (tCons (tVar 0) tNil)) (takes_told X N 9) N.told.2 (kp_told N) TB rfl hmT hu hr (lamS_by (sc := defScope sBehind) (by decide +kernel))
            (fun A outer s H E f c' hr2 => pe_meth (pv 2) C.bCls C.mMost FMo (hr2.mono (by decide)) hMo .nil (passes_call (takes_of rfl rfl rfl rfl) (fun _ _ _ _ h => h)) (pa_cons (pv 0) pa_nil))) pa_nil)))
      (pss_cons (ps_expr (pe_bm PySem.F.plainAttrs_list PySem.F.slot_list_append PySem.F.type_list_append mt_append (pv 1) (pa_cons (pe_lam1 (T := T) (Pt := P1) (j := 2) (k := 8) (t := fun E => tMeth (cB K) "lets" (spLets K) [] E (tVar 2) (tCons (tVar 0) (tCons (tTup (tCons (tC (.int 0)) tNil)) tNil))) (takes_told X N 9) N.told.2 (kp_told N) TB rfl hmT hu hr (lamS_by (sc := defScope sBehind) (by decide +kernel))
            (fun A outer s H E f c' hr2 => pe_meth (pv 2) C.bCls C.mLets FLe (hr2.mono (by decide)) hLe .nil (passes_call (takes_of rfl rfl rfl rfl) (fun _ _ _ _ h => h)) (pa_cons (pv 0) (pa_cons (pe_tup (pa_cons pe_int pa_nil)) pa_nil)))) pa_nil)))
      (pss_cons (ps_expr (pe_bm PySem.F.plainAttrs_list PySem.F.slot_list_append PySem.F.type_list_append mt_append (pv 1) (pa_cons (pe_lam1 (T := T) (Pt := P1) (j := 2) (k := 8) (t := fun E => tMeth (cB K) "lets" (spLets K) [] E (tVar 2) (tCons (tTup (tCons (tC (.int 0)) tNil)) (tCons (tVar 0) tNil))) (takes_told X N 9) N.told.2 (kp_told N) TB rfl hmT hu hr (lamS_by (sc := defScope sBehind) (by decide +kernel))
            (fun A outer s H E f c' hr2 => pe_meth (pv 2) C.bCls C.mLets FLe (hr2.mono (by decide)) hLe .nil (passes_call (takes_of rfl rfl rfl rfl) (fun _ _ _ _ h => h)) (pa_cons (pe_tup (pa_cons pe_int pa_nil)) (pa_cons (pv 0) pa_nil)))) pa_nil)))
      (pss_cons (ps_expr (pe_bm PySem.F.plainAttrs_list PySem.F.slot_list_append PySem.F.type_list_append mt_append (pv 1) (pa_cons (pe_lam1 (T := T) (Pt := P1) (j := 2) (k := 8) (t := fun E => tMeth (cB K) "undo" (spUndo K "NothingDone") [] E (tVar 2) tNil) (takes_told X N 9) N.told.2 (kp_told N) TB rfl hmT hu hr (lamS_by (sc := defScope sBehind) (by decide +kernel))
            (fun A outer s H E f c' hr2 => pe_meth0 (pv 2) C.bCls C.mUndo FUn (hr2.mono (by decide)) hUn .nil (passes_call (takes_of rfl rfl rfl rfl) (fun _ _ _ _ h => h)))) pa_nil)))
      (pss_cons (ps_expr (pe_bm PySem.F.plainAttrs_list PySem.F.slot_list_append PySem.F.type_list_append mt_append (pv 1) (pa_cons (pe_lam1 (T := T) (Pt := P1) (j := 2) (k := 8) (t := fun E => tMeth (cB K) "redo" (spUndo K "NothingUndone") [] E (tVar 2) tNil) (takes_told X N 9) N.told.2 (kp_told N) TB rfl hmT hu hr (lamS_by (sc := defScope sBehind) (by decide +kernel))
            (fun A outer s H E f c' hr2 => pe_meth0 (pv 2) C.bCls C.mRedo FRe (hr2.mono (by decide)) hRe .nil (passes_call (takes_of rfl rfl rfl rfl) (fun _ _ _ _ h => h)))) pa_nil)))
      (pss_cons (ps_expr (pe_bm PySem.F.plainAttrs_list PySem.F.slot_list_append PySem.F.type_list_append mt_append (pv 1) (pa_cons (pe_lam1 (T := T) (Pt := P1) (j := 2) (k := 8) (t := fun E => tFn (spPbT K) E (tCons (tVar 0) tNil)) (takes_told X N 9) N.told.2 (kp_told N) TB rfl hmT hu hr (lamS_by (sc := defScope sBehind) (by decide +kernel))
            (fun A outer s H E f c' hr2 => pe_fn F_planbook_text (hr2.mono (by decide)) (passes_call (takes_of rfl rfl rfl rfl) (fun _ _ _ _ h => h)) (pa_cons (pv 0) pa_nil))) pa_nil)))
      (pss_cons (ps_expr (pe_bm PySem.F.plainAttrs_list PySem.F.slot_list_append PySem.F.type_list_append mt_append (pv 1) (pa_cons (pe_lam1 (T := T) (Pt := P1) (j := 2) (k := 8) (t := fun E => tFn (spRdB K) E (tCons (tIf (tTest (tOp rNe (tVar 0) (tC (.str "x")))) (tVar 0) (tC .non)) tNil)) (takes_told X N 9) N.told.2 (kp_told N) TB rfl hmT hu hr (lamS_by (sc := defScope sBehind) (by decide +kernel))
            (fun A outer s H E f c' hr2 => pe_fn F_read_planbook (hr2.mono (by decide)) (passes_call (takes_of rfl rfl rfl rfl) (fun _ _ _ _ h => h)) (pa_cons (pe_ifExp (pt_cmpR op_ne (pv 0) pe_str (nomark _)) (pv 0) pe_non) pa_nil))) pa_nil)))
      (pss_one (ps_ret (pe_op op_cat (pv 1) (pe_lst (pa_cons (pe_lam1 (T := T) (Pt := P1) (j := 2) (k := 8) (t := fun E => tFn (spRdB K) E (tCons (tC (.str "x")) tNil)) (takes_told X N 9) N.told.2 (kp_told N) TB rfl hmT hu hr (lamS_by (sc := defScope sBehind) (by decide +kernel))
            (fun A outer s H E f c' hr2 => pe_fn F_read_planbook (hr2.mono (by decide)) (passes_call (takes_of rfl rfl rfl rfl) (fun _ _ _ _ h => h)) (pa_cons pe_str pa_nil))) (pa_cons (pe_lam1 (T := T) (Pt := P1) (j := 2) (k := 8) (t := fun E => tFn (spRdB K) E (tCons (tC (.str "switches 1\nbok")) tNil)) (takes_told X N 9) N.told.2 (kp_told N) TB rfl hmT hu hr (lamS_by (sc := defScope sBehind) (by decide +kernel))
            (fun A outer s H E f c' hr2 => pe_fn F_read_planbook (hr2.mono (by decide)) (passes_call (takes_of rfl rfl rfl rfl) (fun _ _ _ _ h => h)) (pa_cons pe_str pa_nil))) (pa_cons (pe_lam1 (T := T) (Pt := P1) (j := 2) (k := 8) (t := fun E => tFn (spRdB K) E (tCons (tC (.str "switches 1\nbook\nmay")) tNil)) (takes_told X N 9) N.told.2 (kp_told N) TB rfl hmT hu hr (lamS_by (sc := defScope sBehind) (by decide +kernel))
            (fun A outer s H E f c' hr2 => pe_fn F_read_planbook (hr2.mono (by decide)) (passes_call (takes_of rfl rfl rfl rfl) (fun _ _ _ _ h => h)) (pa_cons pe_str pa_nil))) pa_nil)))))))))))))))))))))))), ?_⟩
    refine ⟨hT, fun A0 e0 T0 => ?_⟩
    refine ⟨_, rfl, .inl ⟨.num "number", .c1 sw2 o.odd, told_due N fun r B0 s0 an => ?_⟩⟩
    subst an
    have x0 : ExtN H B0 := (ExtN.trans (ExtN.refl H) e0).trans (ExtN.of s0)
    have y0 : Tabs T B0 := T0.ext s0
    refine ⟨y0, fun A1 e1 T1 => ?_⟩
    refine ⟨_, rfl, .inl ⟨.num "number", .c1 sw2 o.odd, told_due N fun r B1 s1 an => ?_⟩⟩
    subst an
    have x1 : ExtN H B1 := (ExtN.trans x0 e1).trans (ExtN.of s1)
    have y1 : Tabs T B1 := T1.ext s1
    refine ⟨y1, fun A2 e2 T2 => ?_⟩
    refine ⟨_, rfl, .inl ⟨.num "radius", .c1 sw2 o.odd, told_due N fun r B2 s2 an => ?_⟩⟩
    subst an
    have x2 : ExtN H B2 := (ExtN.trans x1 e2).trans (ExtN.of s2)
    have y2 : Tabs T B2 := T2.ext s2
    refine ⟨(by show 3 ≤ sizeLine; decide), fun D hD => ?_⟩
    have sD : Same B2 (upd B2 D (.lst [.str "number", .str "number", .str "radius"])) := Same.upd hD
    have f0 : FI T (upd B2 D (.lst [.str "number", .str "number", .str "radius"])) D [.str "number", .str "number", .str "radius"] (upd B2 D (.lst [.str "number", .str "number", .str "radius"])) := ⟨fun _ _ _ e _ => e, y2.ext sD, upd_same⟩
    have hw0 := wkL0 (w := w) (base := base) X
    refine ⟨(by show 7 ≤ sizeLine; decide), fun L0 hL0 => ?_⟩
    generalize hg0 : [V.ref (He.ga K "full_plan"), V.ref (He.ga K "most_full"), V.ref (He.ga K "states_of_ones"), V.ref (He.ga K "greatest_crossing"), V.ref (He.ga K "fewest_chains"), V.ref (He.ga K "long_chain"), V.ref (He.ga K "layers")] = ws0 at hw0
    have sL0 : Same (upd B2 D (.lst [.str "number", .str "number", .str "radius"])) (upd (upd B2 D (.lst [.str "number", .str "number", .str "radius"])) L0 (.lst ws0)) := Same.upd hL0
    have hwl0 : ws0.length = 7 := by rw [← hg0]; rfl
    have LD0 : L0 ≠ D := (ne_of_none f0.d hL0).symm
    refine ⟨L0, rfl, ⟨_, SqL.of upd_same⟩, ?_⟩
    show ∃ W, _ ∧ _
    try rw [hg0]
    refine for_list (K := K) (a := L0) (xs := ws0) (fun i σ H2 => (∃ u2 u3, σ = [some v, some (.ref D), u2, u3]) ∧ FI T (upd (upd B2 D (.lst [.str "number", .str "number", .str "radius"])) L0 (.lst ws0)) D ([.str "number", .str "number", .str "radius"] ++ as0.take i) H2) ⟨⟨_, _, rfl⟩, fun _ _ _ e _ => e, f0.t.ext sL0, sL0 _ _ f0.d⟩ (fun i σ H2 _ h => SqL.of (h.2.list upd_same LD0)) ?_ ?_
    · rintro i x σ H2 hx ⟨⟨u2, u3, rfl⟩, fi⟩
      obtain ⟨d, a, ha, ⟨f, sp, rfl, hf, hsp⟩, han⟩ := hw0 i x hx
      have hi := (List.getElem?_eq_some_iff.mp hx).1
      refine ⟨_, rfl, .inl ⟨rfl, _, SqL.of fi.d⟩, ?_⟩
      refine ⟨fi.t, fun H3 e3 T3 => ?_⟩
      refine ⟨f, sp, rfl, hf, _, rfl, ?_⟩
      refine hsp _ _ _ _ ⟨v, rfl, o.kind⟩ (told_due N fun r H4 s4 an => ?_)
      obtain rfl := han _ _ an
      obtain ⟨h4, fj⟩ := fi.app (x := r) e3 T3 s4
      refine ⟨D, _, _, rfl, rfl, h4, small1000 (by
        rw [List.length_append, List.length_take]
        have h1 : ([.str "number", .str "number", .str "radius"] : List V).length ≤ 100 := by decide
        have h2 : as0.length ≤ 100 := by decide
        omega), ?_⟩
      exact ⟨⟨_, _, rfl⟩, by rw [List.take_succ, ha, ← List.append_assoc]; exact fj⟩
    · rintro σ G0 ⟨⟨u2, u3, rfl⟩, fe0⟩
      rw [hwl0, show as0.take 7 = as0 from rfl] at fe0
      have f1 : FI T (upd B2 D (.lst [.str "number", .str "number", .str "radius"])) D ([.str "number", .str "number", .str "radius"] ++ as0) G0 := f0.trans sL0 fe0
      have hw1 := wkL1 (w := w) (base := base) X
      refine ⟨(by show 3 ≤ sizeLine; decide), fun L1 hL1 => ?_⟩
      generalize hg1 : [V.ref (He.ga K "apart_paper"), V.ref (He.ga K "full_paper"), V.ref (He.ga K "crossing_paper")] = ws1 at hw1
      have sL1 : Same G0 (upd G0 L1 (.lst ws1)) := Same.upd hL1
      have hwl1 : ws1.length = 3 := by rw [← hg1]; rfl
      have LD1 : L1 ≠ D := (ne_of_none f1.d hL1).symm
      refine ⟨L1, rfl, ⟨_, SqL.of upd_same⟩, ?_⟩
      show ∃ W, _ ∧ _
      try rw [hg1]
      refine for_list (K := K) (a := L1) (xs := ws1) (fun i σ H2 => (∃ u2 u3, σ = [some v, some (.ref D), u2, u3]) ∧ FI T (upd G0 L1 (.lst ws1)) D ([.str "number", .str "number", .str "radius"] ++ as0 ++ as1.take i) H2) ⟨⟨_, _, rfl⟩, fun _ _ _ e _ => e, f1.t.ext sL1, sL1 _ _ f1.d⟩ (fun i σ H2 _ h => SqL.of (h.2.list upd_same LD1)) ?_ ?_
      · rintro i x σ H2 hx ⟨⟨u2, u3, rfl⟩, fi⟩
        obtain ⟨d, a, ha, ⟨f, sp, rfl, hf, hsp⟩, han⟩ := hw1 i x hx
        have hi := (List.getElem?_eq_some_iff.mp hx).1
        refine ⟨_, rfl, .inl ⟨rfl, _, SqL.of fi.d⟩, ?_⟩
        refine ⟨fi.t, fun H3 e3 T3 => ?_⟩
        refine ⟨f, sp, rfl, hf, _, rfl, _, rfl, ?_⟩
        refine hsp _ _ _ _ ⟨v, rfl, o.kind⟩ (told_due N fun r H4 s4 an => ?_)
        obtain rfl := han _ _ an
        obtain ⟨h4, fj⟩ := fi.app (x := r) e3 T3 s4
        refine ⟨D, _, _, rfl, rfl, h4, small1000 (by
          rw [List.length_append, List.length_take]
          have h1 : ([.str "number", .str "number", .str "radius"] ++ as0 : List V).length ≤ 100 := by decide
          have h2 : as1.length ≤ 100 := by decide
          omega), ?_⟩
        exact ⟨⟨_, _, rfl⟩, by rw [List.take_succ, ha, ← List.append_assoc]; exact fj⟩
      · rintro σ G1 ⟨⟨u2, u3, rfl⟩, fe1⟩
        rw [hwl1, show as1.take 3 = as1 from rfl] at fe1
        have f2 : FI T (upd B2 D (.lst [.str "number", .str "number", .str "radius"])) D ([.str "number", .str "number", .str "radius"] ++ as0 ++ as1) G1 := f1.trans sL1 fe1
        refine ⟨_, rfl, .inl ⟨rfl, _, SqL.of f2.d⟩, ?_⟩
        refine ⟨f2.t, fun H3_2 e3_2 T3_2 => ?_⟩
        refine ⟨_, rfl, .inl ⟨.num "many", .c2 sw2 sw1 o.odd, told_due N fun r H4 s4 an => ?_⟩⟩
        subst an
        obtain ⟨h4_2, f3⟩ := f2.app (x := .str "many") e3_2 T3_2 s4
        refine ⟨D, _, _, rfl, rfl, h4_2, small1000 (Nat.le_trans (show ([.str "number", .str "number", .str "radius"] ++ as0 ++ as1 : List V).length ≤ 100 by decide) (by decide)), ?_⟩
        refine ⟨_, rfl, .inl ⟨rfl, _, SqL.of f3.d⟩, ?_⟩
        refine ⟨f3.t, fun H3_3 e3_3 T3_3 => ?_⟩
        refine ⟨_, rfl, .inl ⟨.num "many", .c2 sw2 (.mk _ (.inl rfl)) o.odd, told_due N fun r H4 s4 an => ?_⟩⟩
        subst an
        obtain ⟨h4_3, f4⟩ := f3.app (x := .str "many") e3_3 T3_3 s4
        refine ⟨D, _, _, rfl, rfl, h4_3, small1000 (Nat.le_trans (show ([.str "number", .str "number", .str "radius"] ++ as0 ++ as1 ++ [.str "many"] : List V).length ≤ 100 by decide) (by decide)), ?_⟩
        refine ⟨_, rfl, .inl ⟨rfl, _, SqL.of f4.d⟩, ?_⟩
        refine ⟨f4.t, fun H3_4 e3_4 T3_4 => ?_⟩
        refine ⟨(by decide), fun p hp => ⟨_, rfl, ⟨.num "number", .c2 sw2 ⟨p, rfl, SqT.of upd_same, .base (.tup upd_same)⟩ o.odd, DueE.same (K := K) (d := .num "number") (told_due N fun r H4 s4 an => ?_) (Same.upd hp)⟩⟩⟩
        subst an
        obtain ⟨h4_4, f5⟩ := f4.app (x := .str "number") e3_4 T3_4 s4
        refine ⟨D, _, _, rfl, rfl, h4_4, small1000 (Nat.le_trans (show ([.str "number", .str "number", .str "radius"] ++ as0 ++ as1 ++ [.str "many"] ++ [.str "many"] : List V).length ≤ 100 by decide) (by decide)), ?_⟩
        refine ⟨_, rfl, .inl ⟨rfl, _, SqL.of f5.d⟩, ?_⟩
        refine ⟨f5.t, fun H3_5 e3_5 T3_5 => ?_⟩
        refine ⟨(by decide), fun p hp => ⟨_, rfl, _, rfl, ⟨.num "number", .mk (.c2 sw2 ⟨p, rfl, SqT.of upd_same, .base (.tup upd_same)⟩ o.odd), DueE.same (K := K) (d := .num "number") (told_due N fun r H4 s4 an => ?_) (Same.upd hp)⟩⟩⟩
        subst an
        obtain ⟨h4_5, f6⟩ := f5.app (x := .str "number") e3_5 T3_5 s4
        refine ⟨D, _, _, rfl, rfl, h4_5, small1000 (Nat.le_trans (show ([.str "number", .str "number", .str "radius"] ++ as0 ++ as1 ++ [.str "many"] ++ [.str "many"] ++ [.str "number"] : List V).length ≤ 100 by decide) (by decide)), ?_⟩
        refine ⟨_, rfl, .inl ⟨rfl, _, SqL.of f6.d⟩, ?_⟩
        refine ⟨f6.t, fun H3_6 e3_6 T3_6 => ?_⟩
        refine ⟨_, rfl, _, rfl, _, rfl, ⟨.kind, .c0 o.kind, told_due N fun r H4 s4 an => ?_⟩⟩
        subst an
        obtain ⟨h4_6, f7⟩ := f6.app (x := .str "kind") e3_6 T3_6 s4
        refine ⟨D, _, _, rfl, rfl, h4_6, small1000 (Nat.le_trans (show ([.str "number", .str "number", .str "radius"] ++ as0 ++ as1 ++ [.str "many"] ++ [.str "many"] ++ [.str "number"] ++ [.str "number"] : List V).length ≤ 100 by decide) (by decide)), ?_⟩
        refine ⟨_, rfl, .inl ⟨rfl, _, SqL.of f7.d⟩, ?_⟩
        refine ⟨f7.t, fun H3_7 e3_7 T3_7 => ?_⟩
        refine ⟨_, rfl, _, rfl, ⟨.states, .c1 (.mk _ (.inr (.inl rfl))) o.odd, told_due N fun r H4 s4 an => ?_⟩⟩
        subst an
        obtain ⟨h4_7, f8⟩ := f7.app (x := .str "states") e3_7 T3_7 s4
        refine ⟨D, _, _, rfl, rfl, h4_7, small1000 (Nat.le_trans (show ([.str "number", .str "number", .str "radius"] ++ as0 ++ as1 ++ [.str "many"] ++ [.str "many"] ++ [.str "number"] ++ [.str "number"] ++ [.str "kind"] : List V).length ≤ 100 by decide) (by decide)), ?_⟩
        refine fun bk dx hbk hdx hne => ⟨bk, dx, _, rfl, upd_same, .inr ⟨rfl, fun HK kp bz => ⟨rfl, ?_⟩⟩⟩
        have sK := kept_same hbk hdx kp
        have f9 := f8.ext (ExtN.refl _) f8.t sK
        have b9 := bz
        refine ⟨_, rfl, .inl ⟨rfl, _, SqL.of f9.d⟩, ?_⟩
        refine ⟨f9.t, fun H3_9 e3_9 T3_9 => ?_⟩
        have bb9 := Book0_ext b9 e3_9
        obtain ⟨dxb9, la9, lb9, lc9, xb9, hb9, _⟩ := id bb9
        refine ⟨_, rfl, bk, dxb9, _, rfl, hb9, rfl, _, rfl, bk, v, rfl, o.odd, bb9, told_due (d := .edit) N fun r H4 s4 an => ?_⟩
        subst an
        obtain ⟨h4_9, f10⟩ := f9.app (x := .str "edit") e3_9 T3_9 s4
        have b10 := Book0_app (a := "number") (o := .lst ([.str "number", .str "number", .str "radius"] ++ as0 ++ as1 ++ [.str "many"] ++ [.str "many"] ++ [.str "number"] ++ [.str "number"] ++ [.str "kind"] ++ [.str "states"] ++ [.str "edit"])) b9 e3_9 s4 h4_9 rfl
        refine ⟨D, _, _, rfl, rfl, h4_9, small1000 (Nat.le_trans (show ([.str "number", .str "number", .str "radius"] ++ as0 ++ as1 ++ [.str "many"] ++ [.str "many"] ++ [.str "number"] ++ [.str "number"] ++ [.str "kind"] ++ [.str "states"] : List V).length ≤ 100 by decide) (by decide)), ?_⟩
        refine ⟨_, rfl, .inl ⟨rfl, _, SqL.of f10.d⟩, ?_⟩
        refine ⟨f10.t, fun H3_10 e3_10 T3_10 => ?_⟩
        have bb10 := Book0_ext b10 e3_10
        obtain ⟨dxb10, la10, lb10, lc10, xb10, hb10, _⟩ := id bb10
        refine ⟨_, rfl, bk, dxb10, _, rfl, hb10, rfl, _, rfl, bk, v, rfl, o.odd, bb10, told_due (d := .edit) N fun r H4 s4 an => ?_⟩
        subst an
        obtain ⟨h4_10, f11⟩ := f10.app (x := .str "edit") e3_10 T3_10 s4
        have b11 := Book0_app (a := "number") (o := .lst ([.str "number", .str "number", .str "radius"] ++ as0 ++ as1 ++ [.str "many"] ++ [.str "many"] ++ [.str "number"] ++ [.str "number"] ++ [.str "kind"] ++ [.str "states"] ++ [.str "edit"] ++ [.str "edit"])) b10 e3_10 s4 h4_10 rfl
        refine ⟨D, _, _, rfl, rfl, h4_10, small1000 (Nat.le_trans (show ([.str "number", .str "number", .str "radius"] ++ as0 ++ as1 ++ [.str "many"] ++ [.str "many"] ++ [.str "number"] ++ [.str "number"] ++ [.str "kind"] ++ [.str "states"] ++ [.str "edit"] : List V).length ≤ 100 by decide) (by decide)), ?_⟩
        refine ⟨_, rfl, .inl ⟨rfl, _, SqL.of f11.d⟩, ?_⟩
        refine ⟨f11.t, fun H3_11 e3_11 T3_11 => ?_⟩
        have bb11 := Book0_ext b11 e3_11
        obtain ⟨dxb11, la11, lb11, lc11, xb11, hb11, _⟩ := id bb11
        refine ⟨_, rfl, bk, dxb11, _, rfl, hb11, rfl, _, rfl, (by show 1 ≤ sizeLine; decide), fun p hp => ⟨bk, v, _, rfl, .inl o.odd, bb11.same (Same.upd hp), DueE.same (K := K) (d := .edit) (told_due N fun r H4 s4 an => ?_) (Same.upd hp)⟩⟩
        subst an
        obtain ⟨h4_11, f12⟩ := f11.app (x := .str "edit") e3_11 T3_11 s4
        have b12 := Book0_app (a := "number") (o := .lst ([.str "number", .str "number", .str "radius"] ++ as0 ++ as1 ++ [.str "many"] ++ [.str "many"] ++ [.str "number"] ++ [.str "number"] ++ [.str "kind"] ++ [.str "states"] ++ [.str "edit"] ++ [.str "edit"] ++ [.str "edit"])) b11 e3_11 s4 h4_11 rfl
        refine ⟨D, _, _, rfl, rfl, h4_11, small1000 (Nat.le_trans (show ([.str "number", .str "number", .str "radius"] ++ as0 ++ as1 ++ [.str "many"] ++ [.str "many"] ++ [.str "number"] ++ [.str "number"] ++ [.str "kind"] ++ [.str "states"] ++ [.str "edit"] ++ [.str "edit"] : List V).length ≤ 100 by decide) (by decide)), ?_⟩
        refine ⟨_, rfl, .inl ⟨rfl, _, SqL.of f12.d⟩, ?_⟩
        refine ⟨f12.t, fun H3_12 e3_12 T3_12 => ?_⟩
        have bb12 := Book0_ext b12 e3_12
        obtain ⟨dxb12, la12, lb12, lc12, xb12, hb12, _⟩ := id bb12
        refine ⟨_, rfl, bk, dxb12, _, rfl, hb12, rfl, (by show 1 ≤ sizeLine; decide), fun p hp => ⟨_, rfl, bk, _, v, rfl, .inr ⟨⟨p, rfl, .base (.tup upd_same), SqT.of upd_same⟩, o.odd⟩, bb12.same (Same.upd hp), DueE.same (K := K) (d := .edit) (told_due N fun r H4 s4 an => ?_) (Same.upd hp)⟩⟩
        subst an
        obtain ⟨h4_12, f13⟩ := f12.app (x := .str "edit") e3_12 T3_12 s4
        have b13 := Book0_app (a := "number") (o := .lst ([.str "number", .str "number", .str "radius"] ++ as0 ++ as1 ++ [.str "many"] ++ [.str "many"] ++ [.str "number"] ++ [.str "number"] ++ [.str "kind"] ++ [.str "states"] ++ [.str "edit"] ++ [.str "edit"] ++ [.str "edit"] ++ [.str "edit"])) b12 e3_12 s4 h4_12 rfl
        refine ⟨D, _, _, rfl, rfl, h4_12, small1000 (Nat.le_trans (show ([.str "number", .str "number", .str "radius"] ++ as0 ++ as1 ++ [.str "many"] ++ [.str "many"] ++ [.str "number"] ++ [.str "number"] ++ [.str "kind"] ++ [.str "states"] ++ [.str "edit"] ++ [.str "edit"] ++ [.str "edit"] : List V).length ≤ 100 by decide) (by decide)), ?_⟩
        refine ⟨_, rfl, .inl ⟨rfl, _, SqL.of f13.d⟩, ?_⟩
        refine ⟨f13.t, fun H3_13 e3_13 T3_13 => ?_⟩
        have bb13 := Book0_ext b13 e3_13
        obtain ⟨dxb13, la13, lb13, lc13, xb13, hb13, _⟩ := id bb13
        refine ⟨_, rfl, bk, dxb13, _, rfl, hb13, rfl, bk, rfl, bb13, told_due (d := .done) N fun r H4 s4 an => ?_⟩
        subst an
        obtain ⟨h4_13, f14⟩ := f13.app (x := .str "done") e3_13 T3_13 s4
        have b14 := Book0_app (a := "number") (o := .lst ([.str "number", .str "number", .str "radius"] ++ as0 ++ as1 ++ [.str "many"] ++ [.str "many"] ++ [.str "number"] ++ [.str "number"] ++ [.str "kind"] ++ [.str "states"] ++ [.str "edit"] ++ [.str "edit"] ++ [.str "edit"] ++ [.str "edit"] ++ [.str "done"])) b13 e3_13 s4 h4_13 rfl
        refine ⟨D, _, _, rfl, rfl, h4_13, small1000 (Nat.le_trans (show ([.str "number", .str "number", .str "radius"] ++ as0 ++ as1 ++ [.str "many"] ++ [.str "many"] ++ [.str "number"] ++ [.str "number"] ++ [.str "kind"] ++ [.str "states"] ++ [.str "edit"] ++ [.str "edit"] ++ [.str "edit"] ++ [.str "edit"] : List V).length ≤ 100 by decide) (by decide)), ?_⟩
        refine ⟨_, rfl, .inl ⟨rfl, _, SqL.of f14.d⟩, ?_⟩
        refine ⟨f14.t, fun H3_14 e3_14 T3_14 => ?_⟩
        have bb14 := Book0_ext b14 e3_14
        obtain ⟨dxb14, la14, lb14, lc14, xb14, hb14, _⟩ := id bb14
        refine ⟨_, rfl, bk, dxb14, _, rfl, hb14, rfl, bk, rfl, bb14, told_due (d := .undone) N fun r H4 s4 an => ?_⟩
        subst an
        obtain ⟨h4_14, f15⟩ := f14.app (x := .str "undone") e3_14 T3_14 s4
        have b15 := Book0_app (a := "number") (o := .lst ([.str "number", .str "number", .str "radius"] ++ as0 ++ as1 ++ [.str "many"] ++ [.str "many"] ++ [.str "number"] ++ [.str "number"] ++ [.str "kind"] ++ [.str "states"] ++ [.str "edit"] ++ [.str "edit"] ++ [.str "edit"] ++ [.str "edit"] ++ [.str "done"] ++ [.str "undone"])) b14 e3_14 s4 h4_14 rfl
        refine ⟨D, _, _, rfl, rfl, h4_14, small1000 (Nat.le_trans (show ([.str "number", .str "number", .str "radius"] ++ as0 ++ as1 ++ [.str "many"] ++ [.str "many"] ++ [.str "number"] ++ [.str "number"] ++ [.str "kind"] ++ [.str "states"] ++ [.str "edit"] ++ [.str "edit"] ++ [.str "edit"] ++ [.str "edit"] ++ [.str "done"] : List V).length ≤ 100 by decide) (by decide)), ?_⟩
        refine ⟨_, rfl, .inl ⟨rfl, _, SqL.of f15.d⟩, ?_⟩
        refine ⟨f15.t, fun H3_15 e3_15 T3_15 => ?_⟩
        refine ⟨_, rfl, v, rfl, o.odd, told_due (d := .book) N fun r H4 s4 an => ?_⟩
        subst an
        obtain ⟨h4_15, f16⟩ := f15.app (x := .str "book") e3_15 T3_15 s4
        refine ⟨D, _, _, rfl, rfl, h4_15, small1000 (Nat.le_trans (show ([.str "number", .str "number", .str "radius"] ++ as0 ++ as1 ++ [.str "many"] ++ [.str "many"] ++ [.str "number"] ++ [.str "number"] ++ [.str "kind"] ++ [.str "states"] ++ [.str "edit"] ++ [.str "edit"] ++ [.str "edit"] ++ [.str "edit"] ++ [.str "done"] ++ [.str "undone"] : List V).length ≤ 100 by decide) (by decide)), ?_⟩
        refine ⟨_, rfl, .inl ⟨rfl, _, SqL.of f16.d⟩, ?_⟩
        refine ⟨f16.t, fun H3_16 e3_16 T3_16 => ?_⟩
        refine rd_arg o rfl fun u ty h1 h2 => ⟨u, rfl, .inl ⟨ty, h1, h2, told_due (d := .text .non) N fun r H4 s4 an => ?_⟩⟩
        obtain ⟨tA, rfl, htA⟩ := an
        obtain ⟨h4_16, f17⟩ := f16.app (x := .ref tA) e3_16 T3_16 s4
        refine ⟨D, _, _, rfl, rfl, h4_16, small1000 (Nat.le_trans (show ([.str "number", .str "number", .str "radius"] ++ as0 ++ as1 ++ [.str "many"] ++ [.str "many"] ++ [.str "number"] ++ [.str "number"] ++ [.str "kind"] ++ [.str "states"] ++ [.str "edit"] ++ [.str "edit"] ++ [.str "edit"] ++ [.str "edit"] ++ [.str "done"] ++ [.str "undone"] ++ [.str "book"] : List V).length ≤ 100 by decide) (by decide)), ?_⟩
        have hTA : (upd H4 D (.lst ([.str "number", .str "number", .str "radius"] ++ as0 ++ as1 ++ [.str "many"] ++ [.str "many"] ++ [.str "number"] ++ [.str "number"] ++ [.str "kind"] ++ [.str "states"] ++ [.str "edit"] ++ [.str "edit"] ++ [.str "edit"] ++ [.str "edit"] ++ [.str "done"] ++ [.str "undone"] ++ [.str "book"] ++ [.ref tA]))) tA = some (.tup [.str "text", .non]) := by rw [upd_ne (ne_of htA h4_16 (by intro z; cases z))]; exact htA
        have g0 : FI T (upd B2 D (.lst [.str "number", .str "number", .str "radius"])) D ([.str "number", .str "number", .str "radius"] ++ as0 ++ as1 ++ [.str "many"] ++ [.str "many"] ++ [.str "number"] ++ [.str "number"] ++ [.str "kind"] ++ [.str "states"] ++ [.str "edit"] ++ [.str "edit"] ++ [.str "edit"] ++ [.str "edit"] ++ [.str "done"] ++ [.str "undone"] ++ [.str "book"] ++ [.ref tA]) (upd H4 D (.lst ([.str "number", .str "number", .str "radius"] ++ as0 ++ as1 ++ [.str "many"] ++ [.str "many"] ++ [.str "number"] ++ [.str "number"] ++ [.str "kind"] ++ [.str "states"] ++ [.str "edit"] ++ [.str "edit"] ++ [.str "edit"] ++ [.str "edit"] ++ [.str "done"] ++ [.str "undone"] ++ [.str "book"] ++ [.ref tA]))) := f17
        refine ⟨_, rfl, ?_⟩
        refine ⟨g0.t, fun R0 e3_r0 T3_r0 => ?_⟩
        refine ⟨_, rfl, .inr (.inl ⟨rfl, told_due (d := .text (.int 0)) N fun r Z0 s4_r0 an => ?_⟩)⟩
        obtain ⟨tR0, rfl, htR0⟩ := an
        have g1 := g0.ext e3_r0 T3_r0 s4_r0
        replace hTA := s4_r0 _ _ (e3_r0 _ _ hTA (by intro ps z; cases z))
        refine ⟨g1.t, fun R1 e3_r1 T3_r1 => ?_⟩
        refine ⟨_, rfl, .inr (.inr (.inl ⟨rfl, told_due (d := .text (.int 1)) N fun r Z1 s4_r1 an => ?_⟩))⟩
        obtain ⟨tR1, rfl, htR1⟩ := an
        have g2 := g1.ext e3_r1 T3_r1 s4_r1
        replace hTA := s4_r1 _ _ (e3_r1 _ _ hTA (by intro ps z; cases z))
        replace htR0 := s4_r1 _ _ (e3_r1 _ _ htR0 (by intro ps z; cases z))
        refine ⟨g2.t, fun R2 e3_r2 T3_r2 => ?_⟩
        refine ⟨_, rfl, .inr (.inr (.inr ⟨rfl, told_due (d := .text (.int 2)) N fun r Z2 s4_r2 an => ?_⟩))⟩
        obtain ⟨tR2, rfl, htR2⟩ := an
        have g3 := g2.ext e3_r2 T3_r2 s4_r2
        replace hTA := s4_r2 _ _ (e3_r2 _ _ hTA (by intro ps z; cases z))
        replace htR0 := s4_r2 _ _ (e3_r2 _ _ htR0 (by intro ps z; cases z))
        replace htR1 := s4_r2 _ _ (e3_r2 _ _ htR1 (by intro ps z; cases z))
        refine ⟨(by show 3 ≤ sizeLine; decide), fun q hq => ?_⟩
        have sq : Same Z2 (upd Z2 q (.lst [.ref tR0, .ref tR1, .ref tR2])) := Same.upd hq
        refine ⟨D, q, _, _, rfl, rfl, sq _ _ g3.d, upd_same, (by show 30 ≤ sizeLine; decide), fun p hp => ?_⟩
        have sp := sq.trans (Same.upd (o := .lst (([.str "number", .str "number", .str "radius"] ++ as0 ++ as1 ++ [.str "many"] ++ [.str "many"] ++ [.str "number"] ++ [.str "number"] ++ [.str "kind"] ++ [.str "states"] ++ [.str "edit"] ++ [.str "edit"] ++ [.str "edit"] ++ [.str "edit"] ++ [.str "done"] ++ [.str "undone"] ++ [.str "book"] ++ [.ref tA]) ++ [.ref tR0, .ref tR1, .ref tR2])) hp)
        refine k p tA tR0 tR1 tR2 _ (fun b ob hb nt => sp _ _ (g3.e b ob (ne_of_none (x2 _ _ hb nt) hD) (sD _ _ (x2 _ _ hb nt)) nt)) (g3.t.ext sp) (by rw [upd_same]; rfl) (sp _ _ hTA) (sp _ _ htR0) (sp _ _ htR1) (sp _ _ htR2)
end
end K5
set_option maxHeartbeats 4000000
namespace K5
open PySem L2 PySem.EX PyProof.Rows
open LamX (Tabs ExtN TabB LamS lamEnv lamCx lamS_by)
abbrev sLaw : Stmt := top 131
abbrev nLaw : List Str := ["script", "tape", "lap", "odd", "due"]
theorem scLaw : FnScope nLaw ["script"] (defScope sLaw) := ⟨rfl, rfl, rfl, by decide +kernel, rfl, by decide +kernel, by decide +kernel⟩
def spLaw (K : PySem.W.Frag) (T : List (Addr × Str)) : Sp := fun vs H Q _ => ∃ (a : Addr) (ns : List Int), vs = [.ref a] ∧ SqL K H a (ns.map V.int) ∧ ns.length ≤ 63 ∧ Tabs T H ∧ ∀ H', Q (.bl true) H'
structure Txs (P : Program) (K : PySem.W.Frag) (mg : Str → Option Value) (c1 c2 c3 : Addr) : Prop where
  l : TxL K mg
  p : TxP P K mg
  c : TxC P K mg
  b : TxB P K mg
  n : TxN K mg
  first : DefT K mg "_law_first" sFirst c1
  behind : DefT K mg "_law_behind" sBehind c2
  law : DefT K mg "law" sLaw c3
  min : mg "min" = none
  netD : PySem.W.kitOne K (.type "dict") (.ref (He.ga K "NetError")) = some false
/-! ### the texts as data -/
def D20 : PyData := .list (List.replicate 20 (.str "switches"))
def dueD : PyData := .list [.str "number", .str "number", .str "radius", .str "kind", .str "kind", .str "ones", .str "states", .str "states", .str "states", .str "states", .str "number", .str "kind", .str "states", .str "many", .str "many", .str "number", .str "number", .str "kind", .str "states", .str "edit", .str "edit", .str "edit", .str "edit", .str "done", .str "undone", .str "book", .tuple [.str "text", .none], .tuple [.str "text", .int 0], .tuple [.str "text", .int 1], .tuple [.str "text", .int 2]]
abbrev a1 : List V := [.str "number", .str "number", .str "radius", .str "kind", .str "kind", .str "ones"]
abbrev b4 : List V := [.str "states", .str "states", .str "states", .str "states"]
abbrev cD3 : List V := [.str "number", .str "kind", .str "states"]
abbrev d4 : List V := [.str "many", .str "many", .str "number", .str "number"]
abbrev e2 : List V := [.str "kind", .str "states"]
abbrev g4 : List V := [.str "edit", .str "edit", .str "edit", .str "edit"]
abbrev k7 (t0 t1 t2 t3 : Addr) : List V := [.str "done", .str "undone", .str "book", .ref t0, .ref t1, .ref t2, .ref t3]
theorem sh20 : SeqAt.shaped D20 = true := by decide +kernel
theorem shDue : SeqAt.shaped dueD = true := by decide +kernel
theorem eq20 : PyData.eqv D20 D20 = true := by decide +kernel
theorem eqDue : PyData.eqv dueD dueD = true := by decide +kernel
theorem dp20 {K : PySem.W.Frag} {H : Hp} {l : Addr} {xs : List V} (h : H l = some (.lst xs)) (e : xs = List.replicate 20 sw) : Dp K H (.ref l) D20 := by
  subst e
  have go : ∀ n, DpAll K H (List.replicate n sw) (List.replicate n (.str "switches")) := fun n => by
    induction n with
    | zero => exact .nil
    | succ n ih => exact .cons (.str _) ih
  exact .lst (SqL.of h) (go 20)
theorem dpDue {K : PySem.W.Frag} {H : Hp} {l t0 t1 t2 t3 : Addr} {xs : List V} (h : H l = some (.lst xs)) (e : xs = txts ++ [.ref t0, .ref t1, .ref t2, .ref t3]) (h0 : H t0 = some (.tup [.str "text", .non])) (h1 : H t1 = some (.tup [.str "text", .int 0])) (h2 : H t2 = some (.tup [.str "text", .int 1])) (h3 : H t3 = some (.tup [.str "text", .int 2])) : Dp K H (.ref l) dueD := by
  subst e
  refine .lst (SqL.of h) ?_
  show DpAll K H (_ :: _) (_ :: _)
  iterate 26 refine .cons (.str _) ?_
  exact .cons (.tup (SqT.of h0) (.cons (.str _) (.cons .non .nil))) (.cons (.tup (SqT.of h1) (.cons (.str _) (.cons (.int _) .nil))) (.cons (.tup (SqT.of h2) (.cons (.str _) (.cons (.int _) .nil))) (.cons (.tup (SqT.of h3) (.cons (.str _) (.cons (.int _) .nil))) .nil)))
theorem odd_in {i : Nat} {v : V} (h : [V.non, V.str "x", V.int 99, V.int (-5)][i]? = some v) : OddL v := by
  match i, h with
  | 0, h => cases h; exact .non
  | 1, h => cases h; exact .x
  | 2, h => cases h; exact .big
  | 3, h => cases h; exact .neg
  | i + 4, h => cases h
section
variable {P : Program} {w : World} {K : PySem.W.Frag} {mg : Str → Option Value} {base : Heap} {c1 c2 c3 : Addr}
theorem ok_law {T : List (Addr × Str)} {P1 P2 : Addr} (Z : Txs P K mg c1 c2 c3) (TB1 : TabB base mg c1 P1) (TB2 : TabB base mg c2 P2) (hm1 : (P1, lamQ "_law_first") ∈ T) (hu1 : ∀ p ∈ T, p.1 = P1 → p.2 = lamQ "_law_first")
    (hm2 : (P2, lamQ "_law_behind") ∈ T) (hu2 : ∀ p ∈ T, p.1 = P2 → p.2 = lamQ "_law_behind") : ∃ fd, FnOk P w K mg base CX0 13 (He.ga K "law") fd ["script"] (spLaw K T) ∧ Binds K fd ["script"] [] ∧ FunD K "law" "law" (defArgs sLaw) (defBody sLaw) (defScope sLaw) [] [] (He.ga K "law") fd := by
  obtain ⟨L, X, C, B, N, DF, DB, hlaw, hmin, hnet⟩ := Z
  have GB : Fnc P w K mg base CX0 1 "_law_begun" ["script"] (spBegun K) := ok_begun L
  have GP : Fnc P w K mg base CX0 3 "_law_pick" ["tape", "several"] (spPick K) := ok_pick L
  have GF : Fnc P w K mg base CX0 12 "_law_first" ["odd"] (spFirst T) := ok_first X C N DF TB1 hm1 hu1
  have GH : Fnc P w K mg base CX0 12 "_law_behind" ["odd"] (spBehind T) := ok_behind X C B N DB TB2 hm2 hu2
  refine fncT (k := 12) hlaw scLaw (fun vs H Q E h => ?_) (fun _ _ _ _ _ _ us hl => match us, hl with | [_], _ => rfl) (fun A outer s H vs Q E hr h => ?_)
  · obtain ⟨a, ns, rfl, _⟩ := h
    rfl
  · obtain ⟨a, ns, rfl, hS, hlen, hT, k⟩ := h
    have nd := scLaw.nd
    have h1 := hr.mono (show 1 ≤ 12 by decide)
    have h3 := hr.mono (show 3 ≤ 12 by decide)
    refine ⟨_, pss_cons (ps_set (i := 1) nd rfl (Or.inl rfl) (pe_fn GB h1 pass0 (pa_cons (pv 0) pa_nil)))
      (pss_cons (ps_for PassesOwn.never rfl (pi_range1 (by rfl) X.b_range (pa_cons (pe_op op_add pe_int (pe_callB (call_min2 rfl) (by rfl) hmin (by decide +kernel) (pa_cons (pe_callB call_len_seq (by rfl) X.b_len PySem.boot_len (pa_cons (pv 0) pa_nil)) (pa_cons pe_int pa_nil)))) pa_nil)) (pg_name (i := 2) nd rfl (Or.inl rfl))
        (pss_cons (ps_set (i := 3) nd rfl (Or.inl rfl) (pe_fn GP h3 pass0 (pa_cons (pv 1) (pa_cons (pe_lst (pa_cons pe_non (pa_cons pe_str (pa_cons pe_int (pa_cons (pe_un un_neg pe_int) pa_nil))))) pa_nil))))
        (pss_cons (ps_if (pt_cmpR (op_neD hr.units) (pe_fn GF hr pass0 (pa_cons (pv 3) pa_nil)) (pe_op op_rep (pe_lst (pa_cons pe_str pa_nil)) pe_int) (nomark _)) (pss_one (ps_ret pe_bl)) pss_nil)
        (pss_cons (ps_set (i := 4) nd rfl (Or.inl rfl) (pe_op op_cat (pe_op op_cat (pe_op op_cat (pe_lst (pa_cons pe_str (pa_cons pe_str (pa_cons pe_str (pa_cons pe_str (pa_cons pe_str (pa_cons pe_str pa_nil))))))) (pe_op op_rep (pe_lst (pa_cons pe_str pa_nil)) pe_int)) (pe_lst (pa_cons pe_str (pa_cons pe_str (pa_cons pe_str pa_nil))))) (pe_lst (pa_cons pe_str (pa_cons pe_str (pa_cons pe_str (pa_cons pe_str pa_nil)))))))
        (pss_cons (ps_set (i := 4) nd rfl (Or.inl rfl) (pe_op op_cat (pe_op op_cat (pe_op op_cat (pv 4) (pe_lst (pa_cons pe_str (pa_cons pe_str pa_nil)))) (pe_op op_rep (pe_lst (pa_cons pe_str pa_nil)) pe_int)) (pe_lst (pa_cons pe_str (pa_cons pe_str (pa_cons pe_str (pa_cons (pe_tup (pa_cons pe_str (pa_cons pe_non pa_nil))) (pa_cons (pe_tup (pa_cons pe_str (pa_cons pe_int pa_nil))) (pa_cons (pe_tup (pa_cons pe_str (pa_cons pe_int pa_nil))) (pa_cons (pe_tup (pa_cons pe_str (pa_cons pe_int pa_nil))) pa_nil))))))))))
        (pss_one (ps_if (pt_cmpR (op_neD hr.units) (pe_fn GH hr pass0 (pa_cons (pv 3) pa_nil)) (pv 4) (nomark _)) (pss_one (ps_ret pe_bl)) pss_nil)))))))
      (pss_one (ps_ret (pe_not (pe_callB call_isA (by rfl) X.b_isinstance (by decide +kernel) (pa_cons (pv 1) (pa_cons (pe_glob (v := .ref (He.ga K "NetError")) (by rfl) N.net rfl) pa_nil))))))), ?_⟩
    refine ⟨_, rfl, a, ns, rfl, hS, hlen, fun t l c H1 s1 ht0 hl0 hc0 TT => ?_⟩
    have notT : ∀ {H2 : Hp} {p : Addr}, Tape H2 t l c → H2 p = none → p ≠ t ∧ p ≠ l := fun {H2 p} T2 hp => by
      obtain ⟨r, m, lg, cs, e1, e2, _⟩ := T2.ex
      exact ⟨fun e => (by rw [e, e1] at hp; cases hp), fun e => (by rw [e, e2] at hp; cases hp)⟩
    refine ⟨_, rfl, a, _, rfl, .inl (s1.seq hS), _, _, rfl, _, _, rfl, rfl, _, rfl, by split <;> omega, by split <;> omega, for_range (lo := 0) (n := _) (fun i σ H2 => ∃ u0 u2 u3 u4 : Option V, σ = [u0, some (.ref t), u2, u3, u4] ∧ Tape H2 t l c ∧ Tabs T H2)
      ⟨_, _, _, _, rfl, TT, hT.ext s1⟩ ?_ ?_⟩
    · rintro i σ H2 hi ⟨u0, u2, u3, u4, rfl, T2, hT2⟩
      refine ⟨_, rfl, _, rfl, (by show 4 ≤ sizeLine; decide), fun q hq => ?_⟩
      have nq := notT T2 hq
      have sq : Same H2 (upd H2 q (.lst [V.non, V.str "x", V.int 99, V.int (-5)])) := Same.upd hq
      refine ⟨t, l, c, q, [V.non, V.str "x", V.int 99, V.int (-5)], rfl, SqL.of upd_same, by simp, by decide, nq.1, nq.2, sq.tape T2, fun io v H3 hv T3 b3 => ?_⟩
      have o := odd_in hv
      have hT3 := Tabs.but (hT2.ext sq) b3 (sq.tape T2)
      -- the first test
      refine ⟨_, rfl, v, rfl, o.odd, hT3, fun l4 H4 e4 hT4 hl4 => ?_⟩
      have T4 := L2.ExtN.tape e4 T3
      refine ⟨(by show 1 ≤ sizeLine; decide), fun q1 f1 => ?_⟩
      have s1 := Same.upd (o := .lst [sw]) f1
      refine ⟨q1, 20, [sw], rfl, rfl, upd_same, by decide, by decide, (by show 20 ≤ sizeLine; decide), fun q2 f2 => ?_⟩
      have s2 : Same (upd H4 q1 (.lst [sw])) (upd (upd H4 q1 (.lst [sw])) q2 (.lst (List.replicate (Int.toNat 20) [sw]).flatten)) := Same.upd f2
      refine ⟨D20, D20, dp20 (s2 _ _ (s1 _ _ hl4)) rfl, dp20 upd_same rfl, sh20, sh20, _, rfl, ?_⟩
      rw [eq20]
      refine iteF ?_
      have T5 := (s1.trans s2).tape T4
      have hT5 := hT4.ext (s1.trans s2)
      -- due
      refine ⟨(by show 6 ≤ sizeLine; decide), fun p1 f1 => ?_⟩
      have s1 := Same.upd (o := .lst a1) f1
      refine ⟨(by show 1 ≤ sizeLine; decide), fun p2 f2 => ?_⟩
      have s2 := Same.upd (o := .lst [V.str "states"]) f2
      refine ⟨p2, 4, [V.str "states"], rfl, rfl, upd_same, by decide, by decide, (by show 4 ≤ sizeLine; decide), fun p3 f3 => ?_⟩
      have s3 := Same.upd (o := .lst b4) f3
      refine ⟨p1, p3, a1, b4, rfl, rfl, s3 _ _ (s2 _ _ upd_same), upd_same, (by show 10 ≤ sizeLine; decide), fun p4 f4 => ?_⟩
      have s4 := Same.upd (o := .lst (a1 ++ b4)) f4
      refine ⟨(by show 3 ≤ sizeLine; decide), fun p5 f5 => ?_⟩
      have s5 := Same.upd (o := .lst cD3) f5
      refine ⟨p4, p5, a1 ++ b4, cD3, rfl, rfl, s5 _ _ upd_same, upd_same, (by show 13 ≤ sizeLine; decide), fun p6 f6 => ?_⟩
      have s6 := Same.upd (o := .lst (a1 ++ b4 ++ cD3)) f6
      refine ⟨(by show 4 ≤ sizeLine; decide), fun p7 f7 => ?_⟩
      have s7 := Same.upd (o := .lst d4) f7
      refine ⟨p6, p7, a1 ++ b4 ++ cD3, d4, rfl, rfl, s7 _ _ upd_same, upd_same, (by show 17 ≤ sizeLine; decide), fun p8 f8 => ?_⟩
      have s8 := Same.upd (o := .lst (a1 ++ b4 ++ cD3 ++ d4)) f8
      refine ⟨_, rfl, (by show 2 ≤ sizeLine; decide), fun p9 f9 => ?_⟩
      have s9 := Same.upd (o := .lst e2) f9
      refine ⟨p8, p9, a1 ++ b4 ++ cD3 ++ d4, e2, rfl, rfl, s9 _ _ upd_same, upd_same, (by show 19 ≤ sizeLine; decide), fun p10 f10 => ?_⟩
      have s10 := Same.upd (o := .lst (a1 ++ b4 ++ cD3 ++ d4 ++ e2)) f10
      refine ⟨(by show 1 ≤ sizeLine; decide), fun p11 f11 => ?_⟩
      have s11 := Same.upd (o := .lst [V.str "edit"]) f11
      refine ⟨p11, 4, [V.str "edit"], rfl, rfl, upd_same, by decide, by decide, (by show 4 ≤ sizeLine; decide), fun p12 f12 => ?_⟩
      have s12 := Same.upd (o := .lst g4) f12
      refine ⟨p10, p12, a1 ++ b4 ++ cD3 ++ d4 ++ e2, g4, rfl, rfl, s12 _ _ (s11 _ _ upd_same), upd_same, (by show 23 ≤ sizeLine; decide), fun p13 f13 => ?_⟩
      have s13 := Same.upd (o := .lst (a1 ++ b4 ++ cD3 ++ d4 ++ e2 ++ g4)) f13
      refine ⟨(by show 2 ≤ sizeLine; decide), fun t0 g0 => ?_⟩
      have z0 := Same.upd (o := .tup [.str "text", .non]) g0
      refine ⟨(by show 2 ≤ sizeLine; decide), fun t1 g1 => ?_⟩
      have z1 := Same.upd (o := .tup [.str "text", .int 0]) g1
      refine ⟨(by show 2 ≤ sizeLine; decide), fun t2 g2 => ?_⟩
      have z2 := Same.upd (o := .tup [.str "text", .int 1]) g2
      refine ⟨(by show 2 ≤ sizeLine; decide), fun t3 g3 => ?_⟩
      have z3 := Same.upd (o := .tup [.str "text", .int 2]) g3
      refine ⟨(by show 7 ≤ sizeLine; decide), fun p14 f14 => ?_⟩
      have s14 := Same.upd (o := .lst (k7 t0 t1 t2 t3)) f14
      refine ⟨p13, p14, a1 ++ b4 ++ cD3 ++ d4 ++ e2 ++ g4, k7 t0 t1 t2 t3, rfl, rfl, s14 _ _ (z3 _ _ (z2 _ _ (z1 _ _ (z0 _ _ upd_same)))), upd_same, (by show 30 ≤ sizeLine; decide), fun p15 f15 => ?_⟩
      have s15 := Same.upd (o := .lst (a1 ++ b4 ++ cD3 ++ d4 ++ e2 ++ g4 ++ k7 t0 t1 t2 t3)) f15
      have k0 := s15 _ _ (s14 _ _ (z3 _ _ (z2 _ _ (z1 _ _ (upd_same (a := t0) (o := .tup [.str "text", .non]))))))
      have k1 := s15 _ _ (s14 _ _ (z3 _ _ (z2 _ _ (upd_same (a := t1) (o := .tup [.str "text", .int 0])))))
      have k2 := s15 _ _ (s14 _ _ (z3 _ _ (upd_same (a := t2) (o := .tup [.str "text", .int 1]))))
      have k3 := s15 _ _ (s14 _ _ (upd_same (a := t3) (o := .tup [.str "text", .int 2])))
      have S := s1.trans (s2.trans (s3.trans (s4.trans (s5.trans (s6.trans (s7.trans (s8.trans (s9.trans (s10.trans (s11.trans (s12.trans (s13.trans (z0.trans (z1.trans (z2.trans (z3.trans (s14.trans s15)))))))))))))))))
      have T6 := S.tape T5
      have hT6 := hT5.ext S
      refine ⟨_, rfl, v, rfl, o, hT6, fun l6 x0 x1 x2 x3 H6 e6 hT7 hl6 y0 y1 y2 y3 => ?_⟩
      have nt : ∀ {xs : List V} (ps), HO.tup xs ≠ .tbl ps := fun ps z => by cases z
      refine ⟨_, rfl, dueD, dueD, dpDue hl6 rfl y0 y1 y2 y3, dpDue (e6 _ _ upd_same (by intro ps z; cases z)) rfl (e6 _ _ k0 nt) (e6 _ _ k1 nt) (e6 _ _ k2 nt) (e6 _ _ k3 nt), shDue, shDue, _, rfl, ?_⟩
      rw [eqDue]
      exact iteF ⟨_, _, _, _, rfl, L2.ExtN.tape e6 T6, hT7⟩
    · rintro σ H2 ⟨u0, u2, u3, u4, rfl, T2, hT2⟩
      obtain ⟨r, m, lg, cs, e1, _, _⟩ := T2.ex
      exact ⟨_, rfl, .inr ⟨.ref t, .ref (He.ga K "NetError"), .type "dict", .ref (He.ga K "NetError"), false, rfl, .own _, .base (.dK e1), hnet, _, rfl, k _⟩⟩
end
end K5
set_option maxHeartbeats 0
namespace K5
open PySem L2 PySem.EX PyProof.Rows
abbrev prog : Program := PySem.Challenge.pw_restsallowed_k25_across_errors_of_lots_a
abbrev file : Str := prog.main.file
abbrev est (i : Nat) : Stmt := (clsBody (top i)).getD 0 (.Pass ⟨0, 0, 0, 0⟩)
def fn : List He.DefD := [⟨("_law_begun", none), "_law_begun", "_law_begun", defArgs (sBegun), defBody (sBegun), defScope (sBegun), [], []⟩,
  ⟨("_law_blend", none), "_law_blend", "_law_blend", defArgs (sBlend), defBody (sBlend), defScope (sBlend), [], []⟩,
  ⟨("_law_draw", none), "_law_draw", "_law_draw", defArgs (sDraw), defBody (sDraw), defScope (sDraw), [], []⟩,
  ⟨("_law_pick", none), "_law_pick", "_law_pick", defArgs (sPick), defBody (sPick), defScope (sPick), [], []⟩,
  ⟨("is_number", none), "is_number", "is_number", defArgs (top 2), defBody (top 2), defScope (top 2), [], []⟩,
  ⟨("is_between", none), "is_between", "is_between", defArgs (top 3), defBody (top 3), defScope (top 3), [], []⟩,
  ⟨("is_rising", none), "is_rising", "is_rising", defArgs (top 5), defBody (top 5), defScope (top 5), [], []⟩,
  ⟨("is_tuple_of", none), "is_tuple_of", "is_tuple_of", defArgs (top 6), defBody (top 6), defScope (top 6), [], []⟩,
  ⟨("is_state", none), "is_state", "is_state", defArgs (top 41), defBody (top 41), defScope (top 41), [], []⟩,
  ⟨("need_switches", none), "need_switches", "need_switches", defArgs (top 57), defBody (top 57), defScope (top 57), [], []⟩,
  ⟨("need_apart_number", none), "need_apart_number", "need_apart_number", defArgs (top 58), defBody (top 58), defScope (top 58), [], []⟩,
  ⟨("is_apart_lot", none), "is_apart_lot", "is_apart_lot", defArgs (top 61), defBody (top 61), defScope (top 61), [], []⟩,
  ⟨("most_apart", none), "most_apart", "most_apart", defArgs (top 62), defBody (top 62), defScope (top 62), [], []⟩,
  ⟨("need_many_states", none), "need_many_states", "need_many_states", defArgs (top 63), defBody (top 63), defScope (top 63), [], []⟩,
  ⟨("apart_paper", none), "apart_paper", "apart_paper", defArgs (top 66), defBody (top 66), defScope (top 66), [], []⟩,
  ⟨("is_apart_paper", none), "is_apart_paper", "is_apart_paper", defArgs (top 67), defBody (top 67), defScope (top 67), [], []⟩,
  ⟨("ball_many", none), "ball_many", "ball_many", defArgs (top 68), defBody (top 68), defScope (top 68), [], []⟩,
  ⟨("packing_bound", none), "packing_bound", "packing_bound", defArgs (top 69), defBody (top 69), defScope (top 69), [], []⟩,
  ⟨("need_full_kind", none), "need_full_kind", "need_full_kind", defArgs (top 70), defBody (top 70), defScope (top 70), [], []⟩,
  ⟨("need_full", none), "need_full", "need_full", defArgs (top 71), defBody (top 71), defScope (top 71), [], []⟩,
  ⟨("full_plan", none), "full_plan", "full_plan", defArgs (top 72), defBody (top 72), defScope (top 72), [], []⟩,
  ⟨("full_fits", none), "full_fits", "full_fits", defArgs (top 74), defBody (top 74), defScope (top 74), [], []⟩,
  ⟨("most_full", none), "most_full", "most_full", defArgs (top 75), defBody (top 75), defScope (top 75), [], []⟩,
  ⟨("full_paper", none), "full_paper", "full_paper", defArgs (top 76), defBody (top 76), defScope (top 76), [], []⟩,
  ⟨("is_full_paper", none), "is_full_paper", "is_full_paper", defArgs (top 77), defBody (top 77), defScope (top 77), [], []⟩,
  ⟨("even_net", none), "even_net", "even_net", defArgs (top 78), defBody (top 78), defScope (top 78), [], []⟩,
  ⟨("middle_net", none), "middle_net", "middle_net", defArgs (top 79), defBody (top 79), defScope (top 79), [], []⟩,
  ⟨("states_of_ones", none), "states_of_ones", "states_of_ones", defArgs (top 80), defBody (top 80), defScope (top 80), [], []⟩,
  ⟨("need_lot", none), "need_lot", "need_lot", defArgs (top 81), defBody (top 81), defScope (top 81), [], []⟩,
  ⟨("fewest_chains", none), "fewest_chains", "fewest_chains", defArgs (top 91), defBody (top 91), defScope (top 91), [], []⟩,
  ⟨("greatest_crossing", none), "greatest_crossing", "greatest_crossing", defArgs (top 92), defBody (top 92), defScope (top 92), [], []⟩,
  ⟨("need_crossing_number", none), "need_crossing_number", "need_crossing_number", defArgs (top 93), defBody (top 93), defScope (top 93), [], []⟩,
  ⟨("crossing_paper", none), "crossing_paper", "crossing_paper", defArgs (top 94), defBody (top 94), defScope (top 94), [], []⟩,
  ⟨("is_crossing_paper", none), "is_crossing_paper", "is_crossing_paper", defArgs (top 98), defBody (top 98), defScope (top 98), [], []⟩,
  ⟨("long_chain", none), "long_chain", "long_chain", defArgs (top 99), defBody (top 99), defScope (top 99), [], []⟩,
  ⟨("layers", none), "layers", "layers", defArgs (top 100), defBody (top 100), defScope (top 100), [], []⟩,
  ⟨("need_arrows", none), "need_arrows", "need_arrows", defArgs (top 49), defBody (top 49), defScope (top 49), [], []⟩,
  ⟨("is_list", none), "is_list", "is_list", defArgs (top 4), defBody (top 4), defScope (top 4), [], []⟩,
  ⟨("deed_right", none), "deed_right", "deed_right", defArgs (top 111), defBody (top 111), defScope (top 111), [], []⟩,
  ⟨("planbook_text", none), "planbook_text", "planbook_text", defArgs (top 117), defBody (top 117), defScope (top 117), [], []⟩,
  ⟨("Plan", some "__init__"), "__init__", "Plan.__init__", defArgs (pst 0), defBody (pst 0), defScope (pst 0), [], []⟩,
  ⟨("Planbook", some "__init__"), "__init__", "Planbook.__init__", defArgs (bst 0), defBody (bst 0), defScope (bst 0), [], []⟩,
  ⟨("Planbook", some "do"), "do", "Planbook.do", defArgs (bst 3), defBody (bst 3), defScope (bst 3), [], []⟩,
  ⟨("Planbook", some "undo"), "undo", "Planbook.undo", defArgs (bst 4), defBody (bst 4), defScope (bst 4), [], []⟩,
  ⟨("Planbook", some "redo"), "redo", "Planbook.redo", defArgs (bst 5), defBody (bst 5), defScope (bst 5), [], []⟩,
  ⟨("Planbook", some "lets"), "lets", "Planbook.lets", defArgs (bst 9), defBody (bst 9), defScope (bst 9), [], []⟩,
  ⟨("Planbook", some "most_behind"), "most_behind", "Planbook.most_behind", defArgs (bst 11), defBody (bst 11), defScope (bst 11), [], []⟩,
  ⟨("switches_in", none), "switches_in", "switches_in", defArgs (top 106), defBody (top 106), defScope (top 106), [], []⟩,
  ⟨("lines_of", none), "lines_of", "lines_of", defArgs (top 107), defBody (top 107), defScope (top 107), [], []⟩,
  ⟨("deed_line", none), "deed_line", "deed_line", defArgs (top 116), defBody (top 116), defScope (top 116), [], []⟩,
  ⟨("deeds_of", none), "deeds_of", "deeds_of", defArgs (top 118), defBody (top 118), defScope (top 118), [], []⟩,
  ⟨("flips_of", none), "flips_of", "flips_of", defArgs (top 119), defBody (top 119), defScope (top 119), [], []⟩,
  ⟨("read_planbook", none), "read_planbook", "read_planbook", defArgs (top 120), defBody (top 120), defScope (top 120), [], []⟩,
  ⟨("_law_named", none), "_law_named", "_law_named", defArgs (sNamed), defBody (sNamed), defScope (sNamed), [], []⟩,
  ⟨("_law_caught", none), "_law_caught", "_law_caught", defArgs (sCaught), defBody (sCaught), defScope (sCaught), [], []⟩,
  ⟨("_law_told", none), "_law_told", "_law_told", defArgs (sTold), defBody (sTold), defScope (sTold), [], []⟩,
  ⟨("_law_first", none), "_law_first", "_law_first", defArgs (sFirst), defBody (sFirst), defScope (sFirst), [], []⟩,
  ⟨("_law_behind", none), "_law_behind", "_law_behind", defArgs (sBehind), defBody (sBehind), defScope (sBehind), [], []⟩,
  ⟨("law", none), "law", "law", defArgs (sLaw), defBody (sLaw), defScope (sLaw), [], []⟩]
def fa : List He.Fa := [.glo "_law_begun", .glo "_law_blend", .glo "_law_draw", .glo "_law_pick", .free "abs", .free "int", .free "len", .glo "is_number", .glo "is_between", .glo "is_rising", .glo "is_tuple_of", .glo "is_state", .glo "need_switches", .glo "need_apart_number", .glo "is_apart_lot", .glo "most_apart", .glo "need_many_states", .glo "apart_paper", .glo "is_apart_paper", .glo "ball_many", .glo "packing_bound", .glo "need_full_kind", .glo "need_full", .glo "full_plan", .glo "full_fits", .glo "most_full", .glo "full_paper", .glo "is_full_paper", .glo "even_net", .glo "middle_net", .glo "states_of_ones", .glo "need_lot", .glo "fewest_chains", .glo "greatest_crossing", .glo "need_crossing_number", .glo "crossing_paper", .glo "is_crossing_paper", .glo "long_chain", .glo "layers", .int "MOST_SWITCHES" 5, .int "MOST_STATES" 32, .int "MOST_CHAINS" 33, .free "isinstance", .free "bool", .free "tuple", .free "list", .free "str", .free "range", .free "all", .free "any", .free "zip", .glo "BadNumber", .glo "BadText", .exc "BadKind", .glo "BadKind", .exc "BadStates", .glo "BadStates", .exc "BadEdit", .glo "BadEdit", .exc "NothingDone", .glo "NothingDone", .exc "NothingUndone", .glo "NothingUndone", .exc "NoPlanbook", .glo "NoPlanbook", .glo "FULL_KINDS", .glo "need_arrows", .glo "is_list", .glo "deed_right", .glo "planbook_text", .free "enumerate", .free "sorted", .glo "Plan", .cls "Plan", .mkr "Plan", .noat "Plan" "own_switches", .noat "Plan" "own_arrows", .glo "Planbook", .cls "Planbook", .mkr "Planbook", .noat "Planbook" "own_plans", .noat "Planbook" "own_deeds", .noat "Planbook" "own_later", .meth "Planbook" "do", .meth "Planbook" "undo", .meth "Planbook" "redo", .meth "Planbook" "lets", .meth "Planbook" "most_behind", .glo "switches_in", .glo "lines_of", .glo "deed_line", .glo "deeds_of", .glo "flips_of", .glo "read_planbook", .glo "_law_named", .glo "_law_caught", .glo "_law_told", .glo "NetError", .free "ValueError", .noat "BadText" "index", .noat "BadNumber" "part", .glo "_law_first", .glo "_law_behind", .glo "law", .free "min"]
def ts : List He.Tab := []
def gi (C : Str) (k : Fk) (i : Nat) : HX.Gf := (fun K => He.ma K (He.ga K C) "__init__", HX.fy "__init__" k.qual (defArgs (est i)) (defBody (est i)) (defScope (est i)))
def gg (C f q : Str) (st : Stmt) : HX.Gf := (fun K => HX.getterAt K (He.ma K (He.ga K C) f), HX.fy f q (defArgs st) (defBody st) (defScope st))
def gs : List HX.Gf := [gi "BadNumber" .part 23, gi "BadText" .index 24, gg "Plan" "switches" "Plan.switches" (pst 1), gg "Planbook" "switches" "Planbook.switches" (bst 1), gg "Planbook" "plan" "Planbook.plan" (bst 2), gg "Plan" "arrows" "Plan.arrows" (pst 2)]
def cks : List (PySem.W.Frag → Bool) := [fun K => HX.excOk K .part "BadNumber" "PartError" file,
  fun K => HX.excOk K .index "BadText" "ItemError" file,
  fun K => He.tupB K "FULL_KINDS" [.str "both", .str "helps", .str "hinders"],
  fun K => HX.propB K "Plan" "switches" "Plan.switches",
  fun K => HX.propB K "Planbook" "switches" "Planbook.switches",
  fun K => HX.propB K "Planbook" "plan" "Planbook.plan",
  fun K => decide (PySem.W.kitOne K (.type "NoneType") (.ref (cB K)) = some false),
  fun K => decide (PySem.W.kitOne K (.type "int") (.ref (cB K)) = some false),
  fun K => decide (PySem.W.kitOne K (.type "str") (.ref (cB K)) = some false),
  fun K => HX.propB K "Plan" "arrows" "Plan.arrows",
  fun K => exN.all fun x => HX.xcB K x,
  fun K => exN.all fun x => decide (PySem.W.exmOne K (.ref (He.ga K x)) (.ref (He.ga K "NetError")) = some true),
  fun K => exN.all fun x => exN.all fun y => decide (PySem.W.kitOne K (.ref (He.ga K x)) (.ref (He.ga K y)) = some (decide (x = y))),
  fun K => exN.all fun x => decide (PySem.W.kitOne K (.ref (He.ga K x)) (.type "ValueError") = some true),
  fun K => decide (PySem.W.kitOne K (.type "dict") (.ref (He.ga K "NetError")) = some false),
  fun K => decide (HX.tabAt K (HX.codeAt K (He.ga K "_law_first")) ≠ HX.tabAt K (HX.codeAt K (He.ga K "_law_behind")))]
def S : HX.Spec := ⟨6, fa, fn, ts, gs, fun K => cks.all fun f => f K, ["_law_first", "_law_behind"], (["_law_begun", "_law_blend", "_law_draw", "_law_pick", "is_number", "is_between", "is_rising", "is_tuple_of", "is_state", "need_switches", "need_apart_number", "is_apart_lot", "most_apart", "need_many_states", "apart_paper", "is_apart_paper", "ball_many", "packing_bound", "need_full_kind", "need_full", "full_plan", "full_fits", "most_full", "full_paper", "is_full_paper", "even_net", "middle_net", "states_of_ones", "need_lot", "fewest_chains"] : List Str) ++ (["greatest_crossing", "need_crossing_number", "crossing_paper", "is_crossing_paper", "long_chain", "layers", "BadNumber", "BadText", "BadKind", "BadStates", "BadEdit", "NothingDone", "NothingUndone", "NoPlanbook", "FULL_KINDS", "need_arrows", "is_list", "deed_right", "planbook_text", "Plan", "Planbook", "switches_in", "lines_of", "deed_line", "deeds_of", "flips_of", "read_planbook", "_law_named", "_law_caught", "_law_told"] : List Str) ++ (["NetError", "_law_first", "_law_behind", "law"] : List Str)⟩
theorem made_index : ∃ p1 p2 q1 q2 q3 q4 q5 q6 q7 q8 q9 q10 : Pos, defArgs (est 24) = iA .index p1 p2 ∧ defBody (est 24) = iB .index q1 q2 q3 q4 q5 q6 q7 q8 q9 q10 ∧ defScope (est 24) = iS .index ∧ (q3.endLine == q5.line) = true := ⟨_, _, _, _, _, _, _, _, _, _, _, _, rfl, rfl, rfl, rfl⟩
theorem made_part : ∃ p1 p2 q1 q2 q3 q4 q5 q6 q7 q8 q9 q10 : Pos, defArgs (est 23) = iA .part p1 p2 ∧ defBody (est 23) = iB .part q1 q2 q3 q4 q5 q6 q7 q8 q9 q10 ∧ defScope (est 23) = iS .part ∧ (q3.endLine == q5.line) = true := ⟨_, _, _, _, _, _, _, _, _, _, _, _, rfl, rfl, rfl, rfl⟩
theorem noSuper : (prog.main.scope.names.lookup ("super" : Str)).isSome = false := by decide +kernel
theorem defT_of {K : PySem.W.Frag} {mg : Str → Option Value} {x : Str} {st : Stmt} (h : ∃ fd, FunD K x x (defArgs st) (defBody st) (defScope st) [] [] (He.ga K x) fd) (g : mg x = some (.ref (He.ga K x))) : DefT K mg x st (HX.codeAt K (He.ga K x)) := by
  obtain ⟨fd, F⟩ := h
  exact ⟨⟨fd, F, HX.codeAt_ok F⟩, g⟩
section
variable {w : World} {h : Heap} {K : PySem.W.Frag} {mg : Str → Option Value}
theorem cks_ok (c : HX.SaysX S w h K) (i : Nat) {f : PySem.W.Frag → Bool} (e : cks[i]? = some f) : f K = true := List.all_eq_true.mp (show (cks.all fun f => f K) = true from c.c) f (List.mem_of_getElem? e)
theorem hTxL (X : K.In h) (G : h.Ns mainGlobals mg) (c : HX.SaysX S w h K) : TxL K mg := by
  have ck : ∀ (i : Nat) {f : PySem.W.Frag → Bool}, cks[i]? = some f → f K = true := fun i f e => cks_ok c i e
  exact ⟨
    -- begun
    ⟨c.t.d.def_ 0 rfl, (He.glo_ok X G (c.t.d.fact 0 (f := .glo "_law_begun") rfl))⟩,
    -- blend
    ⟨c.t.d.def_ 1 rfl, (He.glo_ok X G (c.t.d.fact 1 (f := .glo "_law_blend") rfl))⟩,
    -- draw
    ⟨c.t.d.def_ 2 rfl, (He.glo_ok X G (c.t.d.fact 2 (f := .glo "_law_draw") rfl))⟩,
    -- pick
    ⟨c.t.d.def_ 3 rfl, (He.glo_ok X G (c.t.d.fact 3 (f := .glo "_law_pick") rfl))⟩,
    -- abs
    (He.free_ok X G (c.t.d.fact 4 (f := .free "abs") rfl)),
    -- int
    (He.free_ok X G (c.t.d.fact 5 (f := .free "int") rfl)),
    -- len
    (He.free_ok X G (c.t.d.fact 6 (f := .free "len") rfl))⟩
theorem hTxP (X : K.In h) (G : h.Ns mainGlobals mg) (c : HX.SaysX S w h K) : TxP prog K mg := by
  have ck : ∀ (i : Nat) {f : PySem.W.Frag → Bool}, cks[i]? = some f → f K = true := fun i f e => cks_ok c i e
  exact ⟨
    -- is_number
    ⟨c.t.d.def_ 4 rfl, (He.glo_ok X G (c.t.d.fact 7 (f := .glo "is_number") rfl))⟩,
    -- is_between
    ⟨c.t.d.def_ 5 rfl, (He.glo_ok X G (c.t.d.fact 8 (f := .glo "is_between") rfl))⟩,
    -- is_rising
    ⟨c.t.d.def_ 6 rfl, (He.glo_ok X G (c.t.d.fact 9 (f := .glo "is_rising") rfl))⟩,
    -- is_tuple_of
    ⟨c.t.d.def_ 7 rfl, (He.glo_ok X G (c.t.d.fact 10 (f := .glo "is_tuple_of") rfl))⟩,
    -- is_state
    ⟨c.t.d.def_ 8 rfl, (He.glo_ok X G (c.t.d.fact 11 (f := .glo "is_state") rfl))⟩,
    -- need_switches
    ⟨c.t.d.def_ 9 rfl, (He.glo_ok X G (c.t.d.fact 12 (f := .glo "need_switches") rfl))⟩,
    -- need_apart_number
    ⟨c.t.d.def_ 10 rfl, (He.glo_ok X G (c.t.d.fact 13 (f := .glo "need_apart_number") rfl))⟩,
    -- is_apart_lot
    ⟨c.t.d.def_ 11 rfl, (He.glo_ok X G (c.t.d.fact 14 (f := .glo "is_apart_lot") rfl))⟩,
    -- most_apart
    ⟨c.t.d.def_ 12 rfl, (He.glo_ok X G (c.t.d.fact 15 (f := .glo "most_apart") rfl))⟩,
    -- need_many_states
    ⟨c.t.d.def_ 13 rfl, (He.glo_ok X G (c.t.d.fact 16 (f := .glo "need_many_states") rfl))⟩,
    -- apart_paper
    ⟨c.t.d.def_ 14 rfl, (He.glo_ok X G (c.t.d.fact 17 (f := .glo "apart_paper") rfl))⟩,
    -- is_apart_paper
    ⟨c.t.d.def_ 15 rfl, (He.glo_ok X G (c.t.d.fact 18 (f := .glo "is_apart_paper") rfl))⟩,
    -- ball_many
    ⟨c.t.d.def_ 16 rfl, (He.glo_ok X G (c.t.d.fact 19 (f := .glo "ball_many") rfl))⟩,
    -- packing_bound
    ⟨c.t.d.def_ 17 rfl, (He.glo_ok X G (c.t.d.fact 20 (f := .glo "packing_bound") rfl))⟩,
    -- need_full_kind
    ⟨c.t.d.def_ 18 rfl, (He.glo_ok X G (c.t.d.fact 21 (f := .glo "need_full_kind") rfl))⟩,
    -- need_full
    ⟨c.t.d.def_ 19 rfl, (He.glo_ok X G (c.t.d.fact 22 (f := .glo "need_full") rfl))⟩,
    -- full_plan
    ⟨c.t.d.def_ 20 rfl, (He.glo_ok X G (c.t.d.fact 23 (f := .glo "full_plan") rfl))⟩,
    -- full_fits
    ⟨c.t.d.def_ 21 rfl, (He.glo_ok X G (c.t.d.fact 24 (f := .glo "full_fits") rfl))⟩,
    -- most_full
    ⟨c.t.d.def_ 22 rfl, (He.glo_ok X G (c.t.d.fact 25 (f := .glo "most_full") rfl))⟩,
    -- full_paper
    ⟨c.t.d.def_ 23 rfl, (He.glo_ok X G (c.t.d.fact 26 (f := .glo "full_paper") rfl))⟩,
    -- is_full_paper
    ⟨c.t.d.def_ 24 rfl, (He.glo_ok X G (c.t.d.fact 27 (f := .glo "is_full_paper") rfl))⟩,
    -- even_net
    ⟨c.t.d.def_ 25 rfl, (He.glo_ok X G (c.t.d.fact 28 (f := .glo "even_net") rfl))⟩,
    -- middle_net
    ⟨c.t.d.def_ 26 rfl, (He.glo_ok X G (c.t.d.fact 29 (f := .glo "middle_net") rfl))⟩,
    -- states_of_ones
    ⟨c.t.d.def_ 27 rfl, (He.glo_ok X G (c.t.d.fact 30 (f := .glo "states_of_ones") rfl))⟩,
    -- need_lot
    ⟨c.t.d.def_ 28 rfl, (He.glo_ok X G (c.t.d.fact 31 (f := .glo "need_lot") rfl))⟩,
    -- fewest_chains
    ⟨c.t.d.def_ 29 rfl, (He.glo_ok X G (c.t.d.fact 32 (f := .glo "fewest_chains") rfl))⟩,
    -- greatest_crossing
    ⟨c.t.d.def_ 30 rfl, (He.glo_ok X G (c.t.d.fact 33 (f := .glo "greatest_crossing") rfl))⟩,
    -- need_crossing_number
    ⟨c.t.d.def_ 31 rfl, (He.glo_ok X G (c.t.d.fact 34 (f := .glo "need_crossing_number") rfl))⟩,
    -- crossing_paper
    ⟨c.t.d.def_ 32 rfl, (He.glo_ok X G (c.t.d.fact 35 (f := .glo "crossing_paper") rfl))⟩,
    -- is_crossing_paper
    ⟨c.t.d.def_ 33 rfl, (He.glo_ok X G (c.t.d.fact 36 (f := .glo "is_crossing_paper") rfl))⟩,
    -- long_chain
    ⟨c.t.d.def_ 34 rfl, (He.glo_ok X G (c.t.d.fact 37 (f := .glo "long_chain") rfl))⟩,
    -- layers
    ⟨c.t.d.def_ 35 rfl, (He.glo_ok X G (c.t.d.fact 38 (f := .glo "layers") rfl))⟩,
    -- MOST_SWITCHES
    (He.int_ok X G (c.t.d.fact 39 (f := .int "MOST_SWITCHES" 5) rfl)),
    -- MOST_STATES
    (He.int_ok X G (c.t.d.fact 40 (f := .int "MOST_STATES" 32) rfl)),
    -- MOST_CHAINS
    (He.int_ok X G (c.t.d.fact 41 (f := .int "MOST_CHAINS" 33) rfl)),
    -- b_isinstance
    (He.free_ok X G (c.t.d.fact 42 (f := .free "isinstance") rfl)),
    -- b_int
    (He.free_ok X G (c.t.d.fact 5 (f := .free "int") rfl)),
    -- b_bool
    (He.free_ok X G (c.t.d.fact 43 (f := .free "bool") rfl)),
    -- b_tuple
    (He.free_ok X G (c.t.d.fact 44 (f := .free "tuple") rfl)),
    -- b_list
    (He.free_ok X G (c.t.d.fact 45 (f := .free "list") rfl)),
    -- b_str
    (He.free_ok X G (c.t.d.fact 46 (f := .free "str") rfl)),
    -- b_range
    (He.free_ok X G (c.t.d.fact 47 (f := .free "range") rfl)),
    -- b_len
    (He.free_ok X G (c.t.d.fact 6 (f := .free "len") rfl)),
    -- b_all
    (He.free_ok X G (c.t.d.fact 48 (f := .free "all") rfl)),
    -- b_any
    (He.free_ok X G (c.t.d.fact 49 (f := .free "any") rfl)),
    -- b_zip
    (He.free_ok X G (c.t.d.fact 50 (f := .free "zip") rfl)),
    -- badNum
    ⟨(He.glo_ok X G (c.t.d.fact 51 (f := .glo "BadNumber") rfl)), HX.excOk_ok (ck 0 rfl) (c.gf 0 (p := gi "BadNumber" .part 23) rfl) made_part noSuper⟩,
    -- badText
    ⟨(He.glo_ok X G (c.t.d.fact 52 (f := .glo "BadText") rfl)), HX.excOk_ok (ck 1 rfl) (c.gf 1 (p := gi "BadText" .index 24) rfl) made_index noSuper⟩,
    -- o_BadKind
    (let q := He.exc_ok (c.t.d.fact 53 (f := .exc "BadKind") rfl); ⟨(He.glo_ok X G (c.t.d.fact 54 (f := .glo "BadKind") rfl)), q.1, q.2.1, q.2.2.1, q.2.2.2⟩),
    -- o_BadStates
    (let q := He.exc_ok (c.t.d.fact 55 (f := .exc "BadStates") rfl); ⟨(He.glo_ok X G (c.t.d.fact 56 (f := .glo "BadStates") rfl)), q.1, q.2.1, q.2.2.1, q.2.2.2⟩),
    -- o_BadEdit
    (let q := He.exc_ok (c.t.d.fact 57 (f := .exc "BadEdit") rfl); ⟨(He.glo_ok X G (c.t.d.fact 58 (f := .glo "BadEdit") rfl)), q.1, q.2.1, q.2.2.1, q.2.2.2⟩),
    -- o_NothingDone
    (let q := He.exc_ok (c.t.d.fact 59 (f := .exc "NothingDone") rfl); ⟨(He.glo_ok X G (c.t.d.fact 60 (f := .glo "NothingDone") rfl)), q.1, q.2.1, q.2.2.1, q.2.2.2⟩),
    -- o_NothingUndone
    (let q := He.exc_ok (c.t.d.fact 61 (f := .exc "NothingUndone") rfl); ⟨(He.glo_ok X G (c.t.d.fact 62 (f := .glo "NothingUndone") rfl)), q.1, q.2.1, q.2.2.1, q.2.2.2⟩),
    -- o_NoPlanbook
    (let q := He.exc_ok (c.t.d.fact 63 (f := .exc "NoPlanbook") rfl); ⟨(He.glo_ok X G (c.t.d.fact 64 (f := .glo "NoPlanbook") rfl)), q.1, q.2.1, q.2.2.1, q.2.2.2⟩),
    -- kinds
    ⟨(He.glo_ok X G (c.t.d.fact 65 (f := .glo "FULL_KINDS") rfl)), fun H => He.tupB_ok (ck 2 rfl) H⟩⟩
theorem hTxC (X : K.In h) (G : h.Ns mainGlobals mg) (c : HX.SaysX S w h K) : TxC prog K mg := by
  have ck : ∀ (i : Nat) {f : PySem.W.Frag → Bool}, cks[i]? = some f → f K = true := fun i f e => cks_ok c i e
  exact ⟨
    -- needA
    ⟨c.t.d.def_ 36 rfl, (He.glo_ok X G (c.t.d.fact 66 (f := .glo "need_arrows") rfl))⟩,
    -- isList
    ⟨c.t.d.def_ 37 rfl, (He.glo_ok X G (c.t.d.fact 67 (f := .glo "is_list") rfl))⟩,
    -- deedRight
    ⟨c.t.d.def_ 38 rfl, (He.glo_ok X G (c.t.d.fact 68 (f := .glo "deed_right") rfl))⟩,
    -- pbText
    ⟨c.t.d.def_ 39 rfl, (He.glo_ok X G (c.t.d.fact 69 (f := .glo "planbook_text") rfl))⟩,
    -- enum
    (He.free_ok X G (c.t.d.fact 70 (f := .free "enumerate") rfl)),
    -- sorted
    (He.free_ok X G (c.t.d.fact 71 (f := .free "sorted") rfl)),
    -- pGlo
    (He.glo_ok X G (c.t.d.fact 72 (f := .glo "Plan") rfl)),
    -- pCls
    He.cls_ok (c.t.d.fact 73 (f := .cls "Plan") rfl),
    -- pMk
    He.mkr_ok (c.t.d.fact 74 (f := .mkr "Plan") rfl),
    -- pInit
    c.t.d.def_ 40 rfl,
    -- pS
    He.noat_ok (c.t.d.fact 75 (f := .noat "Plan" "own_switches") rfl),
    -- pA
    He.noat_ok (c.t.d.fact 76 (f := .noat "Plan" "own_arrows") rfl),
    -- pSw
    HX.propB_ok (ck 3 rfl) (c.gf 2 (p := gg "Plan" "switches" "Plan.switches" (pst 1)) rfl),
    -- bGlo
    (He.glo_ok X G (c.t.d.fact 77 (f := .glo "Planbook") rfl)),
    -- bCls
    He.cls_ok (c.t.d.fact 78 (f := .cls "Planbook") rfl),
    -- bMk
    He.mkr_ok (c.t.d.fact 79 (f := .mkr "Planbook") rfl),
    -- bInit
    c.t.d.def_ 41 rfl,
    -- bP
    He.noat_ok (c.t.d.fact 80 (f := .noat "Planbook" "own_plans") rfl),
    -- bD
    He.noat_ok (c.t.d.fact 81 (f := .noat "Planbook" "own_deeds") rfl),
    -- bL
    He.noat_ok (c.t.d.fact 82 (f := .noat "Planbook" "own_later") rfl),
    -- bSw
    HX.propB_ok (ck 4 rfl) (c.gf 3 (p := gg "Planbook" "switches" "Planbook.switches" (bst 1)) rfl),
    -- bPl
    HX.propB_ok (ck 5 rfl) (c.gf 4 (p := gg "Planbook" "plan" "Planbook.plan" (bst 2)) rfl),
    -- mDo
    He.meth_ok (c.t.d.fact 83 (f := .meth "Planbook" "do") rfl),
    -- fDo
    c.t.d.def_ 42 rfl,
    -- mUndo
    He.meth_ok (c.t.d.fact 84 (f := .meth "Planbook" "undo") rfl),
    -- fUndo
    c.t.d.def_ 43 rfl,
    -- mRedo
    He.meth_ok (c.t.d.fact 85 (f := .meth "Planbook" "redo") rfl),
    -- fRedo
    c.t.d.def_ 44 rfl,
    -- mLets
    He.meth_ok (c.t.d.fact 86 (f := .meth "Planbook" "lets") rfl),
    -- fLets
    c.t.d.def_ 45 rfl,
    -- mMost
    He.meth_ok (c.t.d.fact 87 (f := .meth "Planbook" "most_behind") rfl),
    -- fMost
    c.t.d.def_ 46 rfl,
    -- nNone
    of_decide_eq_true (ck 6 rfl),
    -- nInt
    of_decide_eq_true (ck 7 rfl),
    -- nStr
    of_decide_eq_true (ck 8 rfl)⟩
theorem hTxB (X : K.In h) (G : h.Ns mainGlobals mg) (c : HX.SaysX S w h K) : TxB prog K mg := by
  have ck : ∀ (i : Nat) {f : PySem.W.Frag → Bool}, cks[i]? = some f → f K = true := fun i f e => cks_ok c i e
  exact ⟨
    -- swIn
    ⟨c.t.d.def_ 47 rfl, (He.glo_ok X G (c.t.d.fact 88 (f := .glo "switches_in") rfl))⟩,
    -- lines
    ⟨c.t.d.def_ 48 rfl, (He.glo_ok X G (c.t.d.fact 89 (f := .glo "lines_of") rfl))⟩,
    -- dLine
    ⟨c.t.d.def_ 49 rfl, (He.glo_ok X G (c.t.d.fact 90 (f := .glo "deed_line") rfl))⟩,
    -- deeds
    ⟨c.t.d.def_ 50 rfl, (He.glo_ok X G (c.t.d.fact 91 (f := .glo "deeds_of") rfl))⟩,
    -- flips
    ⟨c.t.d.def_ 51 rfl, (He.glo_ok X G (c.t.d.fact 92 (f := .glo "flips_of") rfl))⟩,
    -- readPb
    ⟨c.t.d.def_ 52 rfl, (He.glo_ok X G (c.t.d.fact 93 (f := .glo "read_planbook") rfl))⟩,
    -- pAr
    HX.propB_ok (ck 9 rfl) (c.gf 5 (p := gg "Plan" "arrows" "Plan.arrows" (pst 2)) rfl)⟩
theorem hTxN (X : K.In h) (G : h.Ns mainGlobals mg) (c : HX.SaysX S w h K) : TxN K mg := by
  have ck : ∀ (i : Nat) {f : PySem.W.Frag → Bool}, cks[i]? = some f → f K = true := fun i f e => cks_ok c i e
  exact ⟨
    -- named
    ⟨c.t.d.def_ 53 rfl, (He.glo_ok X G (c.t.d.fact 94 (f := .glo "_law_named") rfl))⟩,
    -- caught
    ⟨c.t.d.def_ 54 rfl, (He.glo_ok X G (c.t.d.fact 95 (f := .glo "_law_caught") rfl))⟩,
    -- told
    ⟨c.t.d.def_ 55 rfl, (He.glo_ok X G (c.t.d.fact 96 (f := .glo "_law_told") rfl))⟩,
    -- net
    (He.glo_ok X G (c.t.d.fact 97 (f := .glo "NetError") rfl)),
    -- val
    (He.free_ok X G (c.t.d.fact 98 (f := .free "ValueError") rfl)),
    -- xc
    fun x hx => HX.xcB_ok (List.all_eq_true.mp (ck 10 rfl) x hx),
    -- exm
    fun x hx => of_decide_eq_true (List.all_eq_true.mp (ck 11 rfl) x hx),
    -- kit
    fun x hx y hy => of_decide_eq_true (List.all_eq_true.mp (List.all_eq_true.mp (ck 12 rfl) x hx) y hy),
    -- kitV
    fun x hx => of_decide_eq_true (List.all_eq_true.mp (ck 13 rfl) x hx),
    -- noI
    He.noat_ok (c.t.d.fact 99 (f := .noat "BadText" "index") rfl),
    -- noP
    He.noat_ok (c.t.d.fact 100 (f := .noat "BadNumber" "part") rfl)⟩
theorem txs (X : K.In h) (G : h.Ns mainGlobals mg) (c : HX.SaysX S w h K) : Txs prog K mg (HX.codeAt K (He.ga K "_law_first")) (HX.codeAt K (He.ga K "_law_behind")) (HX.codeAt K (He.ga K "law")) := by
  have ck : ∀ (i : Nat) {f : PySem.W.Frag → Bool}, cks[i]? = some f → f K = true := fun i f e => cks_ok c i e
  exact ⟨(hTxL X G c), (hTxP X G c), (hTxC X G c), (hTxB X G c), (hTxN X G c), (defT_of (c.t.d.def_ 56 rfl) (He.glo_ok X G (c.t.d.fact 101 (f := .glo "_law_first") rfl))), (defT_of (c.t.d.def_ 57 rfl) (He.glo_ok X G (c.t.d.fact 102 (f := .glo "_law_behind") rfl))), (defT_of (c.t.d.def_ 58 rfl) (He.glo_ok X G (c.t.d.fact 103 (f := .glo "law") rfl))), (He.free_ok X G (c.t.d.fact 104 (f := .free "min") rfl)), of_decide_eq_true (ck 14 rfl)⟩
theorem apart_0 (c : HX.SaysX S w h K) : HX.tabAt K (HX.codeAt K (He.ga K "_law_first")) ≠ HX.tabAt K (HX.codeAt K (He.ga K "_law_behind")) := of_decide_eq_true (cks_ok c 15 rfl)
end
end K5
set_option maxHeartbeats 0
namespace K5
open PySem L2 PySem.EX PyProof.Rows
abbrev R : PySem.W.OpenRow := PySem.W.OpenLaw.row PySem.Challenge.rw_restsallowed_k25_across_errors_of_lots_a
abbrev hk : PySem.W.Hook := HX.hookX S
def ob (s : PySem.W.SharedT) : HX.AlX := HX.obsXG S (HandSHeadRun.getT s)
theorem ob_eq (s : PySem.W.SharedT) : ob s = hk.obs s.abs := HX.obsXG_eq (HandSHeadRun.getT_eq s)
def names : List Str := (["_wall", "__name__", "is_number", "is_between", "is_list", "is_rising", "is_tuple_of", "fit_of", "first_lots", "fitting_to", "without_one", "greater_lot", "greatest_lot", "bar_by", "bar_tree", "lot_or_bar", "is_item", "are_lots_by", "is_bar_by", "is_bar_tree", "NetError", "PartError", "ItemError", "BadNumber", "BadRules", "BadText", "BadStates", "BadKind", "BadEdit", "NothingDone"] : List Str) ++ (["NothingUndone", "BadArrows", "NoPlanbook", "MOST_SWITCHES", "all_states", "states_many", "need_rules", "Net", "is_state", "is_asked", "ring_sign", "rings_from", "rings_among", "is_arrow", "need_arrows", "Plan", "plan_rings_by", "FULL_KINDS", "MOST_STATES", "unlike_many", "rises_many", "need_switches", "need_apart_number", "stand_apart", "is_lot_by", "is_apart_lot", "most_apart", "need_many_states", "lot_paper", "is_lot_paper"] : List Str) ++ (["apart_paper", "is_apart_paper", "ball_many", "packing_bound", "need_full_kind", "need_full", "full_plan", "full_fits_by", "full_fits", "most_full", "full_paper", "is_full_paper", "even_net", "middle_net", "states_of_ones", "need_lot", "is_state_list", "MOST_CHAINS", "is_under", "joined_once", "joined_all", "chains_by", "reached_by", "crossing_by", "fewest_chains", "greatest_crossing", "need_crossing_number", "crossing_paper", "is_crossing_lot", "is_chain"] : List Str) ++ (["are_chains", "is_crossing_paper", "long_chain", "layers", "leads_from", "clash_between", "fits_by", "switches_in", "lines_of", "DEEDS", "flipped_arrows", "deed_right", "plan_behind", "telling_by", "most_by", "Planbook", "deed_line", "planbook_text", "deeds_of", "flips_of", "read_planbook", "_law_begun", "_law_blend", "_law_draw", "_law_pick", "_law_caught", "_law_named", "_law_told", "_law_first", "_law_behind"] : List Str)
section
open PySem.W HandSHeadRun PySem.Calls
theorem runA0 (w0 : World) : let w := w0.withFollow "special-get-raises" false; ∀ os : OsState, (HandSHeadRun.endF (HandSHeadRun.stepQ (HandSHeadRun.denQ HandSHeadRun.tabQ) R.prog w) 20000 R.prog w os).map (fun s => (HandSHeadRun.looksF R.prog (boot_heap w.params) s.abs, HandSHeadRun.seenQ (PySem.W.view R.prog [131]) names (importedModules R.prog.main.body) (fun s => xlAt (PySem.W.view R.prog [131]) [] s && recOk R.toRowW.records s) s.abs)) = some ((true, openGood (PySem.W.view R.prog [131]) names)) := by
  intro w os
  kernel_rfl
theorem runA1 (w0 : World) : let w := w0.withFollow "special-get-raises" true; ∀ os : OsState, (HandSHeadRun.endF (HandSHeadRun.stepQ (HandSHeadRun.denQ HandSHeadRun.tabQ) R.prog w) 20000 R.prog w os).map (fun s => (HandSHeadRun.looksF R.prog (boot_heap w.params) s.abs, HandSHeadRun.seenQ (PySem.W.view R.prog [131]) names (importedModules R.prog.main.body) (fun s => xlAt (PySem.W.view R.prog [131]) [] s && recOk R.toRowW.records s) s.abs)) = some ((true, openGood (PySem.W.view R.prog [131]) names)) := by
  intro w os
  kernel_rfl
theorem runB0 (w0 : World) : let w := w0.withFollow "special-get-raises" false; ∀ os : OsState, (HandSHeadRun.endF (HandSHeadRun.stepQ (HandSHeadRun.denQ HandSHeadRun.tabQ) R.prog w) 20000 R.prog w os).map (fun s => (ob s).1) = some ((hk.val w).1) := by
  intro w os
  kernel_rfl
theorem runB1 (w0 : World) : let w := w0.withFollow "special-get-raises" true; ∀ os : OsState, (HandSHeadRun.endF (HandSHeadRun.stepQ (HandSHeadRun.denQ HandSHeadRun.tabQ) R.prog w) 20000 R.prog w os).map (fun s => (ob s).1) = some ((hk.val w).1) := by
  intro w os
  kernel_rfl
theorem runC0 (w0 : World) : let w := w0.withFollow "special-get-raises" false; ∀ os : OsState, (HandSHeadRun.endF (HandSHeadRun.stepQ (HandSHeadRun.denQ HandSHeadRun.tabQ) R.prog w) 20000 R.prog w os).map (fun s => (ob s).2) = some ((hk.val w).2) := by
  intro w os
  kernel_rfl
theorem runC1 (w0 : World) : let w := w0.withFollow "special-get-raises" true; ∀ os : OsState, (HandSHeadRun.endF (HandSHeadRun.stepQ (HandSHeadRun.denQ HandSHeadRun.tabQ) R.prog w) 20000 R.prog w os).map (fun s => (ob s).2) = some ((hk.val w).2) := by
  intro w os
  kernel_rfl
end
theorem map_split {δ A B C D : Type} {x : Option δ} {f : δ → A} {g : δ → B} {o : δ → C × D} {a : A} {b : B} {c : C} {d : D} (h1 : x.map (fun s => (f s, g s)) = some (a, b)) (h2 : x.map (fun s => (o s).1) = some c) (h3 : x.map (fun s => (o s).2) = some d) : x.map (fun s => (f s, g s, o s)) = some (a, b, (c, d)) := by
  cases x with
  | none => cases h1
  | some s =>
    have e1 := Option.some.inj h1
    have e2 : (o s).1 = c := Option.some.inj h2
    have e3 : (o s).2 = d := Option.some.inj h3
    have e4 : f s = a := congrArg Prod.fst e1
    have e5 : g s = b := congrArg Prod.snd e1
    show some (f s, g s, o s) = _
    rw [← e2, ← e3, ← e4, ← e5]
theorem run (w : World) : HandSHeadRun.RunEq R (PySem.W.view R.prog [131]) hk ob 20000 names w :=
  PySem.W.byRow2 "special-get-raises" (P := fun w => HandSHeadRun.RunEq R (PySem.W.view R.prog [131]) hk ob 20000 names w) (fun w os => map_split (runA0 w os) (runB0 w os) (runC0 w os)) (fun w os => map_split (runA1 w os) (runB1 w os) (runC1 w os)) w
theorem law_at {w : World} {mg : Str → Option Value} {fa : Addr} {h : Heap} (Y : hk.says w h) (G : h.Ns mainGlobals mg) (hmg : mg ("law" : Str) = some (.ref fa)) :
    ∃ K : PySem.W.Frag, K.In h ∧ LamX.LawAtS PySem.Challenge.rw_restsallowed_k25_across_errors_of_lots_a w K CX0 13 63 "script" mg fa h := by
  obtain ⟨K, KX, c⟩ := Y
  refine ⟨K, KX, ?_⟩
  have Z := txs KX G c
  obtain ⟨a0, b0, c0⟩ := c.l "_law_first" (by simp [S])
  obtain ⟨a1, b1, c1⟩ := c.l "_law_behind" (by simp [S])
  have e := hmg.symm.trans Z.law.2
  cases e
  obtain ⟨⟨fd0, F0, _⟩, _⟩ := id Z.law
  have bnd := FunD.bindsA (ps := ["script"]) F0 fun _ _ _ _ _ _ us hl => match us, hl with | [_], _ => rfl
  refine ⟨fd0, [(HX.codeAt K (He.ga K "_law_first"), HX.tabAt K (HX.codeAt K (He.ga K "_law_first"))), (HX.codeAt K (He.ga K "_law_behind"), HX.tabAt K (HX.codeAt K (He.ga K "_law_behind")))],
    spLaw K [(HX.tabAt K (HX.codeAt K (He.ga K "_law_first")), lamQ "_law_first"), (HX.tabAt K (HX.codeAt K (He.ga K "_law_behind")), lamQ "_law_behind")], ?_, ?_, ?_, fun s u => bnd s [u] rfl, ?_, ?_⟩
  · intro p hp
    rcases List.mem_cons.mp hp with rfl | hp
    · exact b0
    · rw [List.mem_singleton.mp hp]; exact b1
  · intro p hp
    rcases List.mem_cons.mp hp with rfl | hp
    · exact c0
    · rw [List.mem_singleton.mp hp]; exact c1
  · intro p hp
    rcases List.mem_cons.mp hp with rfl | hp
    · exact a0
    · rw [List.mem_singleton.mp hp]; exact a1
  · intro H a ns hl _ hH hS
    refine ⟨a, ns, rfl, hS, hl, fun p hp => ?_, fun _ => rfl⟩
    rcases List.mem_cons.mp hp with rfl | hp
    · exact LamX.TabS.nil (hH (_, _) List.mem_cons_self)
    · rw [List.mem_singleton.mp hp]
      exact LamX.TabS.nil (hH (_, _) (List.mem_cons_of_mem _ List.mem_cons_self))
  · intro base hK hG TB
    have ap := apart_0 c
    obtain ⟨fd, ok, b, F⟩ := ok_law (P := prog) (w := w) (base := base) (T := [(HX.tabAt K (HX.codeAt K (He.ga K "_law_first")), lamQ "_law_first"), (HX.tabAt K (HX.codeAt K (He.ga K "_law_behind")), lamQ "_law_behind")]) Z (TB (_, _) List.mem_cons_self) (TB (_, _) (List.mem_cons_of_mem _ List.mem_cons_self)) List.mem_cons_self
      (fun p hp e => by
        rcases List.mem_cons.mp hp with rfl | hp
        · rfl
        · rw [List.mem_singleton.mp hp] at e
          exact absurd e.symm ap) (List.mem_cons_of_mem _ List.mem_cons_self)
      (fun p hp e => by
        rcases List.mem_cons.mp hp with rfl | hp
        · exact absurd e ap
        · rw [List.mem_singleton.mp hp])
    have ef : fd = fd0 := by
      obtain ⟨oc, od, dV, kV, doc, pm, an, cdv, ct, osl, e1, lk, _⟩ := F.ex
      obtain ⟨oc', od', dV', kV', doc', pm', an', cdv', ct', osl', e1', lk', _⟩ := F0.ex
      rw [lk] at lk'
      cases lk'
      rfl
    rw [← ef]
    exact ok
end K5
open PySem PySem.W PySem.Calls PyProof.Rows
theorem PySem.Challenge.cw_restsallowed_k25_across_errors_of_lots_a_holds : PySem.Challenge.rw_restsallowed_k25_across_errors_of_lots_a.Holds := by
  w_on; o_law
  refine HandSHeadRun.head_any (r := OpenLaw.row PySem.Challenge.rw_restsallowed_k25_across_errors_of_lots_a) (q := view (OpenLaw.row PySem.Challenge.rw_restsallowed_k25_across_errors_of_lots_a).prog [131]) (H := K5.hk) (ob := K5.ob) (M := 20000) (loose := K5.names) (d := HandSHeadRun.topDef (OpenLaw.row PySem.Challenge.rw_restsallowed_k25_across_errors_of_lots_a).prog 131) (kwd := []) K5.ob_eq
    (by kernel_rfl) (fun s => by kernel_rfl) K5.run (by kernel_rfl) (by kernel_rfl) (by kernel_rfl) (by rfl) (by first | assumption | decide +kernel) (by decide +kernel) ⟨rfl, rfl, rfl, rfl, rfl, by decide +kernel⟩ ?hw ?hc
  case hw => w_witness2
  case hc =>
    refine LamX.walk_ofTsE (l := PySem.Challenge.rw_restsallowed_k25_across_errors_of_lots_a) (n := 63) (k := 13) (x := "script") (CX := fun _ => L2.CX0) rfl (by decide) (by kernel_rfl) ⟨rfl, by decide, by decide⟩ ?F (fun _ _ _ _ _ z => z)
    intro w mg fa h Y G hmg0
    have hmg : mg ("law" : PySem.Str) = some (.ref fa) := by
      have e : (HandSHeadRun.topDef (OpenLaw.row PySem.Challenge.rw_restsallowed_k25_across_errors_of_lots_a).prog 131).name = ("law" : PySem.Str) := by kernel_rfl
      rw [← e]
      exact hmg0
    exact K5.law_at Y G hmg
